import Derived.Test.YtbjalofmamoffaaPI3
import Derived.Test.YtbjalofmamoffaaPI4
import Derived.Test.YtbjalofmamoffaaPY5
namespace Go.Proofs.Ytbjalofmamoffaa
open Go Go.Er
theorem bytes74 : Try.t74.bytes = 40 := rfl

theorem sort_row (a : Option Addr) (c : Nat) (ys : List FdL) (N : List (Nat × Obj)) (hn : ys.length < 256) (hu : Unl fdZ fdK ys) (hz : ys.length = 0 → a = none ∧ c = 0) (hR : RowN 3 74 (rowC fdC ys) ys.length a c N) (w0 : World) (hown : Go.Er.Own w0 N) :
    Calls Try.prog 44 #[.slice a ys.length c, .func (.func 45) #[] #[]] w0 fun e w => ∃ v, e = .returned v ∧ ∃ zs N', v = .tuple #[] ∧ zs.Perm ys ∧ Srt fdZ fdK 0 zs.length zs ∧ RowN 3 74 (rowC fdC zs) zs.length a c N' ∧ St w0 (N.map (·.1)) w N' := by
  by_cases h0 : ys.length = 0
  · obtain ⟨rfl, rfl⟩ := hz h0
    have e : ys = [] := List.length_eq_zero_iff.1 h0
    subst e
    have hN : N = [] := by
      obtain ⟨_,_, ⟨_,_,_, h⟩ | ⟨b, sp, h, _⟩⟩ := hR
      · exact h
      · cases h
    subst hN
    exact (sort_nilf w0).mono fun e w ⟨v, he, hv, H⟩ => ⟨v, he, [], [], hv, List.Perm.refl _, (fun p q _ _ h => absurd h (Nat.not_lt_zero _)), RowN.nil, H⟩
  · obtain ⟨b, sp, rfl, hc, rfl, hc2⟩ := RowN.some hR (by omega)
    refine (sort_specf b ys.length c ys sp rfl hn hu w0 hown).mono ?_
    rintro e w ⟨v, he, hv, zs, hp, hs, H⟩
    have hl : zs.length = ys.length := hp.length_eq
    refine ⟨v, he, zs, _, hv, hp, hs, ?_, H⟩
    rw [hl]
    have hr : (rowC fdC zs).length = (rowC fdC ys).length := by rw [rowC_length elFd, rowC_length elFd, hl]
    exact RowN.mk (by rw [rowC_length elFd, hl]) hc2 (by rw [List.length_append] at hc ⊢; rw [hr]; exact hc)
theorem mread0 (bm : Nat) (C : List Sec) (n : Int) (h0 : 0 ≤ n) (h1 : n < (C.length : Int)) (w0 : World) (hm : MirR 51 89 72 w0 bm C) :
    Calls Try.prog 40 #[.pointer (some ⟨bm, 0, none⟩), .int .i64 n] w0 fun e w => ∃ v, e = .returned v ∧ ∃ (s : Sec) (e : Int), v = .tuple #[.agg (kC s).toArray, .int .i64 e] ∧ e ≠ 13 ∧ St w0 [] w [] :=
  (mread_spec bm C n w0 hm).mono fun _ _ ⟨v, he, h⟩ => ⟨v, he, by
    rcases h with ⟨hno, _⟩ | ⟨_,_,_, hv, H⟩ | ⟨_,_,_, hv, H⟩
    · exact absurd ⟨h0, h1⟩ hno
    · exact ⟨_, 0, hv, by decide, H⟩
    · exact ⟨_, 9, hv, by decide, H⟩⟩

set_option maxHeartbeats 4000000 in
theorem open_spec {ba bb : Nat} (bm : Nat) (C : List Sec) (q : Nat) (N : List (Nat × Obj)) (hq : q ≤ 80000) (cs : List Value) (g z : Int) (hg0 : 3 ≤ g) (hg1 : g ≤ 64) (hz0 : 1 ≤ z) (hz1 : z ≤ 32) (hcl : 2 + g * z ≤ (C.length : Int)) (hgz : g * z < 256) (hG : GenB C) (w0 : World) (hm : MirN 150 51 89 72 ba bb bm C q N) (hown : Go.Er.Own w0 N) :
    Calls Try.prog 21 #[.pointer (some ⟨bm, 0, none⟩), .iface 72 (.agg cs.toArray), .agg (shC g z).toArray] w0 fun e w => ∃ v, e = .returned v ∧ (∃ bl fs a c Nr Nb N', v = .tuple #[.pointer (some ⟨bl, 0, none⟩), .slice a fs.length c, .int .i64 0] ∧ (fs.map fdP).Perm (opI (openL0 g z C, []) g.toNat).2 ∧ Srt fdZ fdK 0 fs.length fs ∧ RowN 3 74 (rowC fdC fs) fs.length a c Nr ∧ BsN 5 fs Nb ∧ LogM 150 51 89 72 ba bb bm bl (opI (openL0 g z C, []) g.toNat).1 q N' ∧ St w0 (N.map (·.1)) w (Nr ++ (Nb ++ N'))) := by
  obtain ⟨XN, hXN⟩ : ∃ X, X = N.map (·.1) := ⟨_, rfl⟩
  have H : St w0 XN w0 N := by rw [hXN]; exact hown.st
  obtain ⟨P0, hP0⟩ : ∃ P, P = ((openL0 g z C, []) : LS × List (Int × Int × List UInt8)) := ⟨_, rfl⟩
  have hP2 : P0.2 = [] := by rw [hP0]
  have hPO : LogO P0.1 := by rw [hP0]; exact openL0_O hg0 hg1 hz0 hz1 hcl
  have hPg : P0.1.g = g := by rw [hP0]; rfl
  have hPz : P0.1.z = z := by rw [hP0]; rfl
  have hPC : P0.1.C = C := by rw [hP0]; rfl
  have hgn := gz_nat (g := g) (z := z) (by omega) (by omega)
  rw [← hP0]
  refine c_enter (args := [.pointer (some ⟨bm, 0, none⟩), .iface 72 (.agg cs.toArray), .agg (shC g z).toArray]) (l := [.pointer (some ⟨bm, 0, none⟩), .iface 72 (.agg cs.toArray), .agg (shC g z).toArray, undef, undef, undef, undef, undef, undef, undef, undef, undef, undef, undef, undef, undef, undef, undef, undef, undef, undef, undef, undef, undef, undef, undef, undef, undef, undef, undef, undef, undef, undef, undef, undef, undef, undef, undef, undef, undef, undef, undef, undef, undef, undef, undef, undef, undef, undef, undef, undef, undef, undef, undef, undef, undef, undef, undef, undef, undef, undef, undef, undef, undef, undef, undef, undef, undef, undef, undef, undef]) Try.func21 Try.ntmps21 rfl rfl ?_
  refine c_rseq (n := 71) ⟨rfl, rfl⟩ ?_
  refine s_new (m_box (cs := (shC g z)) H rfl rfl) ?_
  intro w b5 H
  refine s_val (r_assign rfl) ?_
  refine s_val (r_assign rfl) ?_
  refine s_val (r_assign rfl) ?_
  refine c_nil (l' := [_,_,_,_,_,_,_,_,_,_,_,_,_,_,_,_,_,_,_,_,_,_,_,_,_,_,_,_,_,_,_,_,_,_,_,_,_,_,_,_,_,_,_,_,_,_,_,_,_,_,_,_,_,_,_,_,_,_,_,_,_,_,_,_,_,_,_,_,_,_,_]) rfl ?_
  refine c_rseq (n := 71) ⟨rfl, rfl⟩ ?_
  refine s_val (r_move rfl) ?_
  refine s_val (r_move rfl) ?_
  refine s_val (r_loadn Try.isAgg30 Try.sizeOf30 rfl (H.at 0 rfl) (by first | exact (kC_td _) | exact (hC_td _) | exact (hC_seed _) | exact (shC_td _ _) | exact (sdC_td _ _) | exact (fdV_td _ _ _)) (by first | exact (kC_length _) | exact (hC_length _) | exact (shC_length _ _) | exact (wC_length _) | exact (sdC_length _ _) | exact (elFd.len _) | exact (fdV_length _ _ _) | exact (elFd.len _) | exact rfl)) ?_
  refine s_call (r_call Try.call30 (ec rfl (ec rfl (ec rfl en)))) (newlog_spec bm C cs g z hg0 hg1 hz0 hz1 hcl _ (hm.rdM (by omega) H (fun p hp => (List.mem_cons_of_mem _ hp)))) ?_
  rintro v w ⟨bl, bu, rfl, HC⟩
  replace H : St w0 XN w (_ :: ([_,_] ++ N)) := St.mid4 (A := [_]) (H.call0 HC)
  refine s_val (r_move rfl) ?_
  refine s_val (r_extract rfl rfl) ?_
  refine s_val (r_extract rfl rfl) ?_
  refine s_val (r_assign rfl) ?_
  refine s_val (r_assign rfl) ?_
  refine c_nil (l' := [_,_,_,_,_,_,_,_,_,_,_,_,_,_,_,_,_,_,_,_,_,_,_,_,_,_,_,_,_,_,_,_,_,_,_,_,_,_,_,_,_,_,_,_,_,_,_,_,_,_,_,_,_,_,_,_,_,_,_,_,_,_,_,_,_,_,_,_,_,_,_]) rfl ?_
  refine c_seq ?_
  refine c_rseq (n := 71) ⟨rfl, rfl⟩ ?_
  refine s_val (r_move rfl) ?_
  refine s_val (r_neq rfl rfl) ?_
  refine c_nil (l' := [_,_,_,_,_,_,_,_,_,_,_,_,_,_,_,_,_,_,_,_,_,_,_,_,_,_,_,_,_,_,_,_,_,_,_,_,_,_,_,_,_,_,_,_,_,_,_,_,_,_,_,_,_,_,_,_,_,_,_,_,_,_,_,_,_,_,_,_,_,_,_]) rfl ?_
  refine c_iff rfl ?_
  refine wp_skip ?_
  refine x_thenNormal ?_
  refine c_seq ?_
  refine c_rseq (n := 71) ⟨rfl, rfl⟩ ?_
  refine s_val (r_move rfl) ?_
  refine s_call (r_call Try.call40 (ec rfl (ec rfl en))) (mread0 bm C 0 (by omega) (by omega) _ (hm.rdM (by omega) H (fun p hp => (List.mem_cons_of_mem _ (List.mem_cons_of_mem _ (List.mem_cons_of_mem _ hp)))))) ?_
  rintro v w ⟨s0, e0, rfl, he0, HC⟩
  replace H := H.quiet HC
  refine s_val (r_move rfl) ?_
  refine s_val (r_extract rfl rfl) ?_
  refine s_val (r_extract rfl rfl) ?_
  refine s_new (m_alloc (cs := (kC zS)) H Try.zeroValue97 rfl) ?_
  intro w b11 H
  refine s_st (m_storen H 0 128 Try.sizeOf97 rfl rfl (by first | exact (kC_length _) | exact (hC_length _) | exact (shC_length _ _) | exact (wC_length _) | exact (sdC_length _ _) | exact (elFd.len _) | exact (fdV_length _ _ _) | exact (elFd.len _)) (by first | exact (kC_one _) | exact (hC_one _) | exact (shC_one _ _) | exact (elW.one _) | exact (sdC_one _ _) | exact (elFd.one _) | exact (fdV_one _ _ _)) rfl (by first | exact (by rw [kC_length]; omega) | exact (by rw [hC_length]; omega) | exact (by rw [wC_length]; omega)) (by first | exact (kC_sp _ _) | exact (hC_sp _ _))) (L' := (_ :: _ :: _)) rfl ?_
  intro w H
  refine s_val (r_assign rfl) ?_
  refine c_nil (l' := [_,_,_,_,_,_,_,_,_,_,_,_,_,_,_,_,_,_,_,_,_,_,_,_,_,_,_,_,_,_,_,_,_,_,_,_,_,_,_,_,_,_,_,_,_,_,_,_,_,_,_,_,_,_,_,_,_,_,_,_,_,_,_,_,_,_,_,_,_,_,_]) rfl ?_
  refine c_rseq (n := 71) ⟨rfl, rfl⟩ ?_
  refine s_val (r_move rfl) ?_
  refine s_val (r_eql rfl rfl) ?_
  refine c_nil (l' := [_,_,_,_,_,_,_,_,_,_,_,_,_,_,_,_,_,_,_,_,_,_,_,_,_,_,_,_,_,_,_,_,_,_,_,_,_,_,_,_,_,_,_,_,_,_,_,_,_,_,_,_,_,_,_,_,_,_,_,_,_,_,_,_,_,_,_,_,_,_,_]) rfl ?_
  refine c_if rfl (fun h34 => ?_) (fun h34 => ?_)
  · skip
    exfalso; omega
  · skip
    refine wp_skip ?_
    refine x_thenNormal ?_
    refine c_rseq (n := 71) ⟨rfl, rfl⟩ ?_
    refine s_val (r_assign rfl) ?_
    refine c_nil (l' := [_,_,_,_,_,_,_,_,_,_,_,_,_,_,_,_,_,_,_,_,_,_,_,_,_,_,_,_,_,_,_,_,_,_,_,_,_,_,_,_,_,_,_,_,_,_,_,_,_,_,_,_,_,_,_,_,_,_,_,_,_,_,_,_,_,_,_,_,_,_,_]) rfl ?_
    refine c_seq ?_
    refine c_rseq (n := 71) ⟨rfl, rfl⟩ ?_
    refine s_val (r_fieldAddr (k := 0) Try.runUnderlying30 rfl Try.sizeOf3 (by decide) rfl rfl) ?_
    refine s_val (r_load1 Try.isAgg3 rfl (H.at 1 rfl) rfl) ?_
    refine s_val (r_move rfl) ?_
    refine c_nil (l' := [_,_,_,_,_,_,_,_,_,_,_,_,_,_,_,_,_,_,_,_,_,_,_,_,_,_,_,_,_,_,_,_,_,_,_,_,_,_,_,_,_,_,_,_,_,_,_,_,_,_,_,_,_,_,_,_,_,_,_,_,_,_,_,_,_,_,_,_,_,_,_]) rfl ?_
    refine wp_block ?_
    have hL0 : LogM 150 51 89 72 ba bb bm bl P0.1 q ([(bl, .cells (lgC bm (.iface 72 (.agg cs.toArray)) g z bu g.toNat (-1) 0 0).toArray 91 (0, 0)), (bu, .cells (uC (List.replicate g.toNat 0)).toArray 36 (0, 0))] ++ N) := by
      rw [hP0]
      refine ⟨cs, bu, 91, 36, N, ?_, hm, (openL0_O hg0 hg1 hz0 hz1 hcl).1⟩
      show _ = (bl, Obj.cells (lgC _ _ _ _ _ (List.replicate g.toNat (0 : Int)).length _ _ _).toArray _ (0, 0)) :: _
      rw [List.length_replicate]
      rfl
    refine c_loop (fun (l0 : List Value) (i : Nat) (l : List Value) (w : World) => ∃ (u14 u15 u16 u17 u39 u40 u41 u42 u43 u44 u45 u46 u47 u48 u49 u50 u51 u52 u53 u54 u55 u56 u57 u58 u59 u60 u61 u62 u63 u64 : Value) (a : Option Addr) (c : Nat) (fs : List FdL) (Nr Nb Nl : List (Nat × Obj)), l = ovr l0 [N_, N_, N_, N_, N_, N_, N_, N_, N_, Y_ (.pointer (some ⟨bl, 0, none⟩)), N_, N_, N_, Y_ (.slice a fs.length c), Y_ u14, Y_ u15, Y_ u16, Y_ u17, N_, N_, N_, N_, N_, N_, N_, N_, N_, N_, N_, N_, N_, N_, N_, N_, N_, N_, N_, N_, Y_ (.int .i64 i), Y_ u39, Y_ u40, Y_ u41, Y_ u42, Y_ u43, Y_ u44, Y_ u45, Y_ u46, Y_ u47, Y_ u48, Y_ u49, Y_ u50, Y_ u51, Y_ u52, Y_ u53, Y_ u54, Y_ u55, Y_ u56, Y_ u57, Y_ u58, Y_ u59, Y_ u60, Y_ u61, Y_ u62, Y_ u63, Y_ u64] ∧ i ≤ g.toNat ∧ LogM 150 51 89 72 ba bb bm bl (opI P0 i).1 q Nl ∧ fs.map fdP = (opI P0 i).2 ∧ RowN 3 74 (rowC fdC fs) fs.length a c Nr ∧ BsN 5 fs Nb ∧ (fs.length = 0 → a = none ∧ c = 0) ∧ St w0 XN w ((b11, .cells (kC s0).toArray 97 (0, 0)) :: (b5, .cells (shC g z).toArray 30 (0, 0)) :: Nr ++ (Nb ++ Nl))) (fun (i : Nat) => g.toNat - i) 0 ⟨_,_,_,_,_,_,_,_,_,_,_,_,_,_,_,_,_,_,_,_,_,_,_,_,_,_,_,_,_,_, none, 0, [], [], [], _, rfl, by omega, hL0, (by show _ = P0.2; rw [hP2]; rfl), RowN.nil, BsN.nil, (fun _ => ⟨rfl, rfl⟩), H⟩ ?_
    intro i l w ⟨u14, u15, u16, u17, u39, u40, u41, u42, u43, u44, u45, u46, u47, u48, u49, u50, u51, u52, u53, u54, u55, u56, u57, u58, u59, u60, u61, u62, u63, u64, a, c, fs, Nr, Nb, Nl, hl, hi, hL, hfs, hR, hB, hz0, H⟩
    obtain rfl := hl.trans (rfl : _ = [_,_,_,_,_,_,_,_,_,_,_,_,_,_,_,_,_,_,_,_,_,_,_,_,_,_,_,_,_,_,_,_,_,_,_,_,_,_,_,_,_,_,_,_,_,_,_,_,_,_,_,_,_,_,_,_,_,_,_,_,_,_,_,_,_,_,_,_,_,_,_])
    clear hl
    refine c_rseq (n := 71) ⟨rfl, rfl⟩ ?_
    refine s_val (r_lss rfl rfl) ?_
    refine c_nil (l' := [_,_,_,_,_,_,_,_,_,_,_,_,_,_,_,_,_,_,_,_,_,_,_,_,_,_,_,_,_,_,_,_,_,_,_,_,_,_,_,_,_,_,_,_,_,_,_,_,_,_,_,_,_,_,_,_,_,_,_,_,_,_,_,_,_,_,_,_,_,_,_]) rfl ?_
    refine c_seq ?_
    refine c_if rfl (fun h39 => ?_) (fun h39 => ?_)
    · skip
      refine wp_skip ?_
      refine x_thenNormal ?_
      refine c_seq ?_
      refine wp_block ?_
      refine c_rseq (n := 71) ⟨rfl, rfl⟩ ?_
      refine s_val (r_move rfl) ?_
      refine s_val (r_assign rfl) ?_
      refine c_nil (l' := [_,_,_,_,_,_,_,_,_,_,_,_,_,_,_,_,_,_,_,_,_,_,_,_,_,_,_,_,_,_,_,_,_,_,_,_,_,_,_,_,_,_,_,_,_,_,_,_,_,_,_,_,_,_,_,_,_,_,_,_,_,_,_,_,_,_,_,_,_,_,_]) rfl ?_
      refine c_rseq (n := 71) ⟨rfl, rfl⟩ ?_
      refine s_val (r_fieldAddr (k := 1) Try.runUnderlying30 rfl Try.sizeOf3 (by decide) rfl rfl) ?_
      refine s_val (r_load1 Try.isAgg3 rfl (H.at 1 rfl) rfl) ?_
      refine s_val (r_move rfl) ?_
      refine c_nil (l' := [_,_,_,_,_,_,_,_,_,_,_,_,_,_,_,_,_,_,_,_,_,_,_,_,_,_,_,_,_,_,_,_,_,_,_,_,_,_,_,_,_,_,_,_,_,_,_,_,_,_,_,_,_,_,_,_,_,_,_,_,_,_,_,_,_,_,_,_,_,_,_]) rfl ?_
      refine wp_block ?_
      refine c_loop (fun (l0 : List Value) (j : Nat) (l : List Value) (w : World) => ∃ (u15 u16 u17 u44 u45 u46 u47 u48 u49 u50 u51 u52 u53 u54 u55 u56 u57 u58 u59 u60 u61 u62 u63 : Value) (a : Option Addr) (c : Nat) (fs : List FdL) (Nr Nb Nl : List (Nat × Obj)), l = ovr l0 [N_, N_, N_, N_, N_, N_, N_, N_, N_, Y_ (.pointer (some ⟨bl, 0, none⟩)), N_, N_, N_, Y_ (.slice a fs.length c), N_, Y_ u15, Y_ u16, Y_ u17, N_, N_, N_, N_, N_, N_, N_, N_, N_, N_, N_, N_, N_, N_, N_, N_, N_, N_, N_, N_, N_, N_, N_, N_, N_, Y_ (.int .i64 j), Y_ u44, Y_ u45, Y_ u46, Y_ u47, Y_ u48, Y_ u49, Y_ u50, Y_ u51, Y_ u52, Y_ u53, Y_ u54, Y_ u55, Y_ u56, Y_ u57, Y_ u58, Y_ u59, Y_ u60, Y_ u61, Y_ u62, Y_ u63] ∧ j ≤ z.toNat ∧ LogM 150 51 89 72 ba bb bm bl (opJ (opI P0 i) i j).1 q Nl ∧ fs.map fdP = (opJ (opI P0 i) i j).2 ∧ RowN 3 74 (rowC fdC fs) fs.length a c Nr ∧ BsN 5 fs Nb ∧ (fs.length = 0 → a = none ∧ c = 0) ∧ St w0 XN w ((b11, .cells (kC s0).toArray 97 (0, 0)) :: (b5, .cells (shC g z).toArray 30 (0, 0)) :: Nr ++ (Nb ++ Nl))) (fun (j : Nat) => z.toNat - j) 0 ⟨_,_,_,_,_,_,_,_,_,_,_,_,_,_,_,_,_,_,_,_,_,_,_, a, c, fs, Nr, Nb, Nl, rfl, by omega, hL, hfs, hR, hB, hz0, H⟩ ?_
      intro j l w ⟨u15, u16, u17, u44, u45, u46, u47, u48, u49, u50, u51, u52, u53, u54, u55, u56, u57, u58, u59, u60, u61, u62, u63, a, c, fs, Nr, Nb, Nl, hl, hj, hL, hfs, hR, hB, hz0, H⟩
      obtain rfl := hl.trans (rfl : _ = [_,_,_,_,_,_,_,_,_,_,_,_,_,_,_,_,_,_,_,_,_,_,_,_,_,_,_,_,_,_,_,_,_,_,_,_,_,_,_,_,_,_,_,_,_,_,_,_,_,_,_,_,_,_,_,_,_,_,_,_,_,_,_,_,_,_,_,_,_,_,_])
      clear hl
      refine c_rseq (n := 71) ⟨rfl, rfl⟩ ?_
      refine s_val (r_lss rfl rfl) ?_
      refine c_nil (l' := [_,_,_,_,_,_,_,_,_,_,_,_,_,_,_,_,_,_,_,_,_,_,_,_,_,_,_,_,_,_,_,_,_,_,_,_,_,_,_,_,_,_,_,_,_,_,_,_,_,_,_,_,_,_,_,_,_,_,_,_,_,_,_,_,_,_,_,_,_,_,_]) rfl ?_
      refine c_seq ?_
      refine c_if rfl (fun h44 => ?_) (fun h44 => ?_)
      · skip
        refine wp_skip ?_
        refine x_thenNormal ?_
        refine c_seq ?_
        refine wp_block ?_
        refine c_rseq (n := 71) ⟨rfl, rfl⟩ ?_
        refine s_val (r_move rfl) ?_
        refine s_val (r_assign rfl) ?_
        refine c_nil (l' := [_,_,_,_,_,_,_,_,_,_,_,_,_,_,_,_,_,_,_,_,_,_,_,_,_,_,_,_,_,_,_,_,_,_,_,_,_,_,_,_,_,_,_,_,_,_,_,_,_,_,_,_,_,_,_,_,_,_,_,_,_,_,_,_,_,_,_,_,_,_,_]) rfl ?_
        refine c_rseq (n := 71) ⟨rfl, rfl⟩ ?_
        refine s_val (r_move rfl) ?_
        refine s_val (r_move rfl) ?_
        refine s_val (r_move rfl) ?_
        have hsj := (opJ_same (opI P0 i) i j).trans (opI_same P0 i)
        have hOj : LogO (opJ (opI P0 i) i j).1 := opJ_O (opI_O hPO (by rw [hPC]; exact hG) i (by omega)) (by rw [(opI_same P0 i).C, hPC]; exact hG) (by rw [(opI_same P0 i).g]; omega) j (by rw [(opI_same P0 i).z]; omega)
        have hgj := hsj.g
        have hzj := hsj.z
        obtain ⟨n, hn⟩ : ∃ n, n = slotN (opJ (opI P0 i) i j).1 i j := ⟨_, rfl⟩
        refine s_call (r_call Try.call42 (ec rfl (ec rfl (ec rfl en)))) (find_spec bm bl (opJ (opI P0 i) i j).1 q Nl (by omega) i j n hn.symm (by omega) (by omega) (by omega) (by omega) _ hL (H.ownsM (.cons _ (.cons _ ((List.sublist_append_right _ _).trans (List.sublist_append_right _ _)))))) ?_
        rintro v w (⟨hsl, bd, NB, N2, rfl, hbd, hNB, hL2, HC⟩ | ⟨hsl, N2, rfl, hL2, HC⟩)
        · skip
          replace H : St w0 XN w (_ :: _ :: (Nr ++ ((NB ++ Nb) ++ N2))) := St.fnd (A := [_,_]) (St.call5 (A := [_,_]) H HC)
          obtain ⟨gn, hgn1⟩ : ∃ gn, gn = genU (sd (opJ (opI P0 i) i j).1.C n.toNat) := ⟨_, rfl⟩
          obtain ⟨hgs0, hgs1⟩ : 0 ≤ gn ∧ gn < 1000000000 := by rw [hgn1, hn]; exact gen_small hOj.1 (by rw [hsj.C, hPC]; exact hG) (by omega) (by omega) (by rw [← hn]; exact hsl)
          have hrng := slot_rng hOj.1 (i := i) (j := j) (by omega) (by omega)
          rw [← hn] at hrng
          rw [← hgn1]
          have hst : opJ (opI P0 i) i (j + 1) = (takeL (opJ (opI P0 i) i j).1 i j gn, (opJ (opI P0 i) i j).2 ++ [(n, gn, bd.b)]) := by
            show stepF _ i j = _
            unfold stepF
            rw [← hn, if_pos hsl, hbd, hgn1]
          have hlen : fs.length ≤ 2080 := by
            have h1 := congrArg List.length hfs
            rw [List.length_map] at h1
            rw [h1]; exact opIJ_len hP2 (by omega) (by omega) (by omega)
          refine s_val (r_move rfl) ?_
          refine s_val (r_extract rfl rfl) ?_
          refine s_val (r_extract rfl rfl) ?_
          refine s_new (m_alloc (cs := (fdV 0 0 bdZ)) H Try.zeroValue74 rfl) ?_
          intro w b16 H
          refine s_st (m_storen H 0 3 Try.sizeOf74 rfl rfl (by first | exact (kC_length _) | exact (hC_length _) | exact (shC_length _ _) | exact (wC_length _) | exact (sdC_length _ _) | exact (elFd.len _) | exact (fdV_length _ _ _) | exact (elFd.len _)) (by first | exact (kC_one _) | exact (hC_one _) | exact (shC_one _ _) | exact (elW.one _) | exact (sdC_one _ _) | exact (elFd.one _) | exact (fdV_one _ _ _)) rfl (by show 0 + 3 ≤ 3; omega) (fdV_sp _ _ _ _ _ _)) (L' := (_ :: _ :: _ :: _)) rfl ?_
          intro w H
          refine s_val (r_assign rfl) ?_
          refine c_nil (l' := [_,_,_,_,_,_,_,_,_,_,_,_,_,_,_,_,_,_,_,_,_,_,_,_,_,_,_,_,_,_,_,_,_,_,_,_,_,_,_,_,_,_,_,_,_,_,_,_,_,_,_,_,_,_,_,_,_,_,_,_,_,_,_,_,_,_,_,_,_,_,_]) rfl ?_
          refine c_rseq (n := 71) ⟨rfl, rfl⟩ ?_
          refine s_val (r_move rfl) ?_
          refine c_nil (l' := [_,_,_,_,_,_,_,_,_,_,_,_,_,_,_,_,_,_,_,_,_,_,_,_,_,_,_,_,_,_,_,_,_,_,_,_,_,_,_,_,_,_,_,_,_,_,_,_,_,_,_,_,_,_,_,_,_,_,_,_,_,_,_,_,_,_,_,_,_,_,_]) rfl ?_
          refine c_ift rfl ?_
          refine c_rseq (n := 71) ⟨rfl, rfl⟩ ?_
          refine s_val (r_move rfl) ?_
          refine s_val (r_move rfl) ?_
          refine s_val (r_move rfl) ?_
          refine s_val (r_loadn Try.isAgg74 Try.sizeOf74 rfl (H.at 0 rfl) (by first | exact (kC_td _) | exact (hC_td _) | exact (hC_seed _) | exact (shC_td _ _) | exact (sdC_td _ _) | exact (fdV_td _ _ _)) (by first | exact (kC_length _) | exact (hC_length _) | exact (shC_length _ _) | exact (wC_length _) | exact (sdC_length _ _) | exact (elFd.len _) | exact (fdV_length _ _ _) | exact (elFd.len _) | exact rfl)) ?_
          refine s_call (r_call Try.call43 (ec rfl (ec rfl (ec rfl (ec rfl en))))) (take_spec bm bl (opJ (opI P0 i) i j).1 q N2 (by omega) i j n gn bd hOj.2 (by omega) (by omega) (by omega) (by omega) hgs0 hgs1 _ hL2 (H.ownsM (.cons _ (.cons _ (.cons _ ((List.sublist_append_right _ _).trans (List.sublist_append_right _ _))))))) ?_
          rintro v w ⟨rfl, N3, hL3, HC⟩
          replace H : St w0 XN w (_ :: _ :: _ :: (Nr ++ ((NB ++ Nb) ++ N3))) := St.call5 (A := [_,_,_]) H HC
          refine c_nil (l' := [_,_,_,_,_,_,_,_,_,_,_,_,_,_,_,_,_,_,_,_,_,_,_,_,_,_,_,_,_,_,_,_,_,_,_,_,_,_,_,_,_,_,_,_,_,_,_,_,_,_,_,_,_,_,_,_,_,_,_,_,_,_,_,_,_,_,_,_,_,_,_]) rfl ?_
          refine c_region (n := 71) ⟨rfl, rfl⟩ ?_
          refine s_val (r_move rfl) ?_
          refine s_val (r_loadn Try.isAgg74 Try.sizeOf74 rfl (H.at 0 rfl) (by first | exact (kC_td _) | exact (hC_td _) | exact (hC_seed _) | exact (shC_td _ _) | exact (sdC_td _ _) | exact (fdV_td _ _ _)) (by first | exact (kC_length _) | exact (hC_length _) | exact (shC_length _ _) | exact (wC_length _) | exact (sdC_length _ _) | exact (elFd.len _) | exact (fdV_length _ _ _) | exact (elFd.len _) | exact rfl)) ?_
          refine s_new (m_bslice1 (vs := fdV n gn bd) H Try.runUnderlying62 Try.sizeOf74 Try.zeroValue74 (by omega) (by omega) rfl rfl rfl) ?_
          intro w b61 H
          replace H := St.rot (A := [_,_,_,_]) H
          refine s_any (m_append_row0 (L1 := [_,_,_,_] ++ ((NB ++ Nb) ++ N3)) (N := Nr) H hR Try.runUnderlying62 Try.runUnderlying62 (fun _ h => nomatch h) Try.sizeOf74 Try.zeroValue74 rfl Try.typeInfo74 (by rw [bytes74]; omega) (by rw [bytes74]; omega) (ec rfl (ec rfl en)) (Src.slice (vs := fdV n gn bd) (H.at 0 rfl) rfl rfl (fdV_one _ _ _))) ?_
          rintro v w ⟨a2, c2, N4, rfl, hN4, H⟩
          replace H := St.unrot (A := [_,_,_,_]) (R := (NB ++ Nb) ++ N3) H
          obtain ⟨f, hf⟩ : ∃ f : FdL, f = ⟨n, gn, bd, ⟨by omega, by omega, by omega, by omega⟩⟩ := ⟨_, rfl⟩
          obtain ⟨fs2, hfs2⟩ : ∃ fs2, fs2 = fs ++ [f] := ⟨_, rfl⟩
          have hfl : fs2.length = fs.length + 1 := by rw [hfs2, List.length_append]; rfl
          rw [← hfl] at hN4 ⊢
          have hfsj : fs2.map fdP = (opJ (opI P0 i) i (j + 1)).2 := by rw [hfs2, List.map_append, hfs, hst, hf]; rfl
          have hRj : RowN 3 74 (rowC fdC fs2) fs2.length a2 c2 N4 := by rw [hfs2, rowC_append, rowC_one1, ← hfs2, hf]; exact hN4
          have hBj : BsN 5 fs2 (NB ++ Nb) := by rw [hfs2]; exact hB.snoc (by rw [hf]; exact hNB)
          have hLj : LogM 150 51 89 72 ba bb bm bl (opJ (opI P0 i) i (j + 1)).1 q N3 := by rw [hst]; exact hL3
          refine s_val (r_assign rfl) ?_
          refine c_nil0 (l' := [_,_,_,_,_,_,_,_,_,_,_,_,_,_,_,_,_,_,_,_,_,_,_,_,_,_,_,_,_,_,_,_,_,_,_,_,_,_,_,_,_,_,_,_,_,_,_,_,_,_,_,_,_,_,_,_,_,_,_,_,_,_,_,_,_,_,_,_,_,_,_]) rfl ?_
          refine x_blockNormal ?_
          refine x_thenNormal ?_
          refine c_region (n := 71) ⟨rfl, rfl⟩ ?_
          refine s_val (r_add rfl rfl (w_i64 (by omega) (by omega))) ?_
          refine s_val (r_move rfl) ?_
          refine c_nil0 (l' := [_,_,_,_,_,_,_,_,_,_,_,_,_,_,_,_,_,_,_,_,_,_,_,_,_,_,_,_,_,_,_,_,_,_,_,_,_,_,_,_,_,_,_,_,_,_,_,_,_,_,_,_,_,_,_,_,_,_,_,_,_,_,_,_,_,_,_,_,_,_,_]) rfl ?_
          replace H := H.sub (.cons _ (.cons _ (.cons_cons _ (.cons_cons _ (List.Sublist.refl _)))))
          exact ⟨j + 1, _, rfl, ⟨_,_,_,_,_,_,_,_,_,_,_,_,_,_,_,_,_,_,_,_,_,_,_, a2, c2, fs2, N4, (NB ++ Nb), N3, rfl, by omega, hLj, hfsj, hRj, hBj, (fun h => absurd h (by omega)), H⟩, by omega⟩
        · skip
          replace H : St w0 XN w (_ :: _ :: (Nr ++ (Nb ++ N2))) := St.call5 (A := [_,_]) H HC
          have hst : opJ (opI P0 i) i (j + 1) = opJ (opI P0 i) i j := by
            show stepF _ i j = _
            unfold stepF
            rw [← hn, if_neg hsl]
          refine s_val (r_move rfl) ?_
          refine s_val (r_extract rfl rfl) ?_
          refine s_val (r_extract rfl rfl) ?_
          refine s_new (m_alloc (cs := (fdV 0 0 bdZ)) H Try.zeroValue74 rfl) ?_
          intro w b16 H
          refine s_st (m_storen H 0 3 Try.sizeOf74 rfl rfl (by first | exact (kC_length _) | exact (hC_length _) | exact (shC_length _ _) | exact (wC_length _) | exact (sdC_length _ _) | exact (elFd.len _) | exact (fdV_length _ _ _) | exact (elFd.len _)) (by first | exact (kC_one _) | exact (hC_one _) | exact (shC_one _ _) | exact (elW.one _) | exact (sdC_one _ _) | exact (elFd.one _) | exact (fdV_one _ _ _)) rfl (by show 0 + 3 ≤ 3; omega) (fdV_sp _ _ _ _ _ _)) (L' := (_ :: _ :: _ :: _)) rfl ?_
          intro w H
          refine s_val (r_assign rfl) ?_
          refine c_nil (l' := [_,_,_,_,_,_,_,_,_,_,_,_,_,_,_,_,_,_,_,_,_,_,_,_,_,_,_,_,_,_,_,_,_,_,_,_,_,_,_,_,_,_,_,_,_,_,_,_,_,_,_,_,_,_,_,_,_,_,_,_,_,_,_,_,_,_,_,_,_,_,_]) rfl ?_
          refine c_rseq (n := 71) ⟨rfl, rfl⟩ ?_
          refine s_val (r_move rfl) ?_
          refine c_nil (l' := [_,_,_,_,_,_,_,_,_,_,_,_,_,_,_,_,_,_,_,_,_,_,_,_,_,_,_,_,_,_,_,_,_,_,_,_,_,_,_,_,_,_,_,_,_,_,_,_,_,_,_,_,_,_,_,_,_,_,_,_,_,_,_,_,_,_,_,_,_,_,_]) rfl ?_
          refine c_iff rfl ?_
          refine wp_skip ?_
          refine x_blockNormal ?_
          refine x_thenNormal ?_
          refine c_region (n := 71) ⟨rfl, rfl⟩ ?_
          refine s_val (r_add rfl rfl (w_i64 (by omega) (by omega))) ?_
          refine s_val (r_move rfl) ?_
          refine c_nil0 (l' := [_,_,_,_,_,_,_,_,_,_,_,_,_,_,_,_,_,_,_,_,_,_,_,_,_,_,_,_,_,_,_,_,_,_,_,_,_,_,_,_,_,_,_,_,_,_,_,_,_,_,_,_,_,_,_,_,_,_,_,_,_,_,_,_,_,_,_,_,_,_,_]) rfl ?_
          replace H := H.sub (.cons _ (.cons_cons _ (.cons_cons _ (List.Sublist.refl _))))
          exact ⟨j + 1, _, rfl, ⟨_,_,_,_,_,_,_,_,_,_,_,_,_,_,_,_,_,_,_,_,_,_,_, a, c, fs, Nr, Nb, N2, rfl, by omega, (by rw [hst]; exact hL2), (by rw [hst]; exact hfs), hR, hB, hz0, H⟩, by omega⟩
      · skip
        obtain rfl : j = z.toNat := by omega
        refine wp_exit (x_thenExit (x_thenExit (x_blockHit ?_)))
        refine x_blockNormal ?_
        refine x_thenNormal ?_
        refine c_region (n := 71) ⟨rfl, rfl⟩ ?_
        refine s_val (r_add rfl rfl (w_i64 (by omega) (by omega))) ?_
        refine s_val (r_move rfl) ?_
        refine c_nil0 (l' := [_,_,_,_,_,_,_,_,_,_,_,_,_,_,_,_,_,_,_,_,_,_,_,_,_,_,_,_,_,_,_,_,_,_,_,_,_,_,_,_,_,_,_,_,_,_,_,_,_,_,_,_,_,_,_,_,_,_,_,_,_,_,_,_,_,_,_,_,_,_,_]) rfl ?_
        exact ⟨i + 1, _, rfl, ⟨_,_,_,_,_,_,_,_,_,_,_,_,_,_,_,_,_,_,_,_,_,_,_,_,_,_,_,_,_,_, a, c, fs, Nr, Nb, Nl, rfl, by omega, (by show LogM 150 51 89 72 ba bb bm bl (opJ _ i P0.1.z.toNat).1 q Nl; rw [hPz]; exact hL), (by show _ = (opJ _ i P0.1.z.toNat).2; rw [hPz]; exact hfs), hR, hB, hz0, H⟩, by omega⟩
    · skip
      obtain rfl : i = g.toNat := by omega
      refine wp_exit (x_thenExit (x_thenExit (x_blockHit ?_)))
      refine x_thenNormal ?_
      refine c_rseq (n := 71) ⟨rfl, rfl⟩ ?_
      refine s_val (r_move rfl) ?_
      obtain ⟨cs2, bu2, T, T2, Nm, rfl, hm2, hF2⟩ := hL
      refine s_call (r_call Try.call32 (ec rfl en)) (mflush_spec bm _ q Nm (by omega) _ hm2 (H.ownsM (.cons _ (.cons _ (((List.sublist_append_right [_,_] _).trans (List.sublist_append_right _ _)).trans (List.sublist_append_right _ _)))))) ?_
      rintro v w ⟨rfl, N2, hm3, HC⟩
      replace H := St.flu H HC
      have hL : LogM 150 51 89 72 ba bb bm bl (opI P0 g.toNat).1 q (_ :: _ :: N2) := ⟨cs2, bu2, T, T2, N2, rfl, hm3, hF2⟩
      refine c_nil (l' := [_,_,_,_,_,_,_,_,_,_,_,_,_,_,_,_,_,_,_,_,_,_,_,_,_,_,_,_,_,_,_,_,_,_,_,_,_,_,_,_,_,_,_,_,_,_,_,_,_,_,_,_,_,_,_,_,_,_,_,_,_,_,_,_,_,_,_,_,_,_,_]) rfl ?_
      refine c_rseq (n := 71) ⟨rfl, rfl⟩ ?_
      refine s_val (r_move rfl) ?_
      have hri := opI_rise (p := P0) (by omega) hP2 g.toNat
      have hle := opI_len (p := P0) g.toNat
      rw [hP2, hPz] at hle
      have hlen : fs.length < 256 := by
        have h1 := congrArg List.length hfs
        rw [List.length_map] at h1
        rw [h1]
        simp only [List.length_nil] at hle
        omega
      have hu : Unl fdZ fdK fs := fd_unl (by rw [hfs]; exact hri.1)
      refine s_call (r_call Try.call44 (ec rfl (ec rfl en))) (sort_row a c fs Nr hlen hu hz0 hR _ (H.ownsM (List.sublist_append_right _ _))) ?_
      rintro v w ⟨zs, Nz, rfl, hperm, hsrt, hRz, HC⟩
      replace H := St.callr H HC
      refine c_nil (l' := [_,_,_,_,_,_,_,_,_,_,_,_,_,_,_,_,_,_,_,_,_,_,_,_,_,_,_,_,_,_,_,_,_,_,_,_,_,_,_,_,_,_,_,_,_,_,_,_,_,_,_,_,_,_,_,_,_,_,_,_,_,_,_,_,_,_,_,_,_,_,_]) rfl ?_
      refine c_rseq (n := 71) ⟨rfl, rfl⟩ ?_
      refine s_val (r_move rfl) ?_
      refine s_val (r_move rfl) ?_
      refine s_val (r_assign rfl) ?_
      refine s_val (r_assign rfl) ?_
      refine s_val (r_assign rfl) ?_
      refine c_nil (l' := [_,_,_,_,_,_,_,_,_,_,_,_,_,_,_,_,_,_,_,_,_,_,_,_,_,_,_,_,_,_,_,_,_,_,_,_,_,_,_,_,_,_,_,_,_,_,_,_,_,_,_,_,_,_,_,_,_,_,_,_,_,_,_,_,_,_,_,_,_,_,_]) rfl ?_
      refine wp_ret ?_
      refine e_ret (res3 rfl rfl rfl rfl) ⟨_, rfl, ?_⟩
      rw [← hXN]
      replace H := (H.sub (.cons _ (.cons _ (List.Sublist.refl _)))).perm List.perm_append_comm
      refine ⟨bl, zs, a, c, Nz, Nb, _, ?_, (hperm.map _).trans (by rw [hfs]), hsrt, hRz, hB.perm hperm, hL, H⟩
      rw [hperm.length_eq]

end Go.Proofs.Ytbjalofmamoffaa

