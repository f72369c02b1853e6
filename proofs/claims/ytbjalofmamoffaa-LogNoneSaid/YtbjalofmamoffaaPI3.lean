import Derived.Test.YtbjalofmamoffaaPC3
import Derived.Test.YtbjalofmamoffaaPI1
import Derived.Test.YtbjalofmamoffaaPI2
import Derived.Test.YtbjalofmamoffaaPV2
namespace Go.Proofs.Ytbjalofmamoffaa
open Go Go.Er
set_option linter.unusedSimpArgs false in
theorem places74 : Places Try.prog #[⟨ "At", 3, 0, false, "", "", 0⟩, ⟨ "Gen", 36, 1, false, "", "", 8⟩, ⟨ "Body", 40, 2, false, "", "", 16⟩] [(0, 1), (1, 1), (2, 1)] := fun w => by simp [Try.sizeOf3 w, Try.sizeOf36 w, Try.sizeOf40 w]

set_option maxHeartbeats 4000000 in
theorem find_spec {ba bb : Nat} (bm bl : Nat) (x : LS) (q : Nat) (N : List (Nat × Obj)) (hq : q ≤ 80000) (s t n : Int) (hn : 2 + s * x.z + t = n) (hs0 : 0 ≤ s) (hs1 : s < x.g) (ht0 : 0 ≤ t) (ht1 : t < x.z) (w0 : World) (hg : LogM 150 51 89 72 ba bb bm bl x q N) (hown : Go.Er.Own w0 N) :
    Calls Try.prog 42 #[.pointer (some ⟨bl, 0, none⟩), .int .i64 s, .int .i64 t] w0 fun e w => ∃ v, e = .returned v ∧ ((Sealed n (sd x.C n.toNat) ∧ ∃ bd NB N', v = .tuple #[.agg (fdV n (genU (sd x.C n.toNat)) bd).toArray, .bool true] ∧ bd.b = bodyU (sd x.C n.toNat) ∧ RowN 1 5 (bC bd.b) bd.b.length bd.a bd.c NB ∧ LogM 150 51 89 72 ba bb bm bl x q N' ∧ St w0 (N.map (·.1)) w (NB ++ N')) ∨ (¬ Sealed n (sd x.C n.toNat) ∧ ∃ N', v = .tuple #[.agg (fdV 0 0 bdZ).toArray, .bool false] ∧ LogM 150 51 89 72 ba bb bm bl x q N' ∧ St w0 (N.map (·.1)) w N')) := by
  obtain ⟨XN, hXN⟩ : ∃ X, X = N.map (·.1) := ⟨_, rfl⟩
  have H : St w0 XN w0 N := by rw [hXN]; exact hown.st
  have hg2 := hg
  obtain ⟨cs, bu, T, T2, Nm, rfl, hm, hF⟩ := hg2
  obtain ⟨fg0, fg1, fz0, fz1, fgl, fcl, fu, ⟨fh0, fh1⟩, ⟨fs0, fs1⟩, ⟨fk0, fk1⟩, fkg⟩ := id hF
  refine c_enter (args := [.pointer (some ⟨bl, 0, none⟩), .int .i64 s, .int .i64 t]) (l := [.pointer (some ⟨bl, 0, none⟩), .int .i64 s, .int .i64 t, undef, undef, undef, undef, undef, undef, undef, undef, undef, undef, undef, undef, undef, undef, undef, undef, undef, undef, undef, undef, undef, undef, undef, undef, undef, undef, undef, undef, undef, undef, undef, undef, undef, undef, undef, undef, undef, undef, undef, undef, undef, undef, undef, undef, undef, undef, undef, undef, undef, undef, undef, undef, undef, undef, undef, undef, undef, undef, undef, undef, undef, undef, undef, undef, undef, undef, undef, undef, undef, undef, undef, undef, undef, undef]) Try.func42 Try.ntmps42 rfl rfl ?_
  refine c_rseq (n := 77) ⟨rfl, rfl⟩ ?_
  refine s_new (m_alloc (cs := (fdV 0 0 bdZ)) H Try.zeroValue74 rfl) ?_
  intro w b6 H
  refine s_val (r_assign rfl) ?_
  refine c_nil (l' := [_,_,_,_,_,_,_,_,_,_,_,_,_,_,_,_,_,_,_,_,_,_,_,_,_,_,_,_,_,_,_,_,_,_,_,_,_,_,_,_,_,_,_,_,_,_,_,_,_,_,_,_,_,_,_,_,_,_,_,_,_,_,_,_,_,_,_,_,_,_,_,_,_,_,_,_,_]) rfl ?_
  refine c_rseq (n := 77) ⟨rfl, rfl⟩ ?_
  refine s_val (r_move rfl) ?_
  refine s_val (r_nilCheck rfl) ?_
  refine s_val (r_fieldAddr (k := 2) Try.runUnderlying91 rfl Try.sizeOf30 (by decide) rfl rfl) ?_
  refine s_val (r_loadn Try.isAgg30 Try.sizeOf30 rfl (H.at 1 rfl) (lgC_sh _ _ _ _ _ _ _ _ _) (by first | exact (kC_length _) | exact (hC_length _) | exact (shC_length _ _) | exact (wC_length _) | exact (sdC_length _ _) | exact (elFd.len _) | exact (fdV_length _ _ _) | exact (elFd.len _) | exact rfl)) ?_
  refine s_val (r_move rfl) ?_
  refine s_val (r_move rfl) ?_
  refine s_call (r_call Try.call34 (ec rfl (ec rfl (ec rfl en)))) (sector_spec x.g x.z fg0 fg1 fz0 fz1 s t hs0 hs1 ht0 ht1 _) ?_
  rintro v w ⟨rfl, HC⟩
  replace H := H.quiet HC
  have hgz := gz_rng (g := x.g) (z := x.z) (by omega) fg1 (by omega) fz1
  have hszr := sz_rng hs0 hs1 (z := x.z) (by omega)
  have hn0 : 0 ≤ n := by omega
  have hn1 : n < (x.C.length : Int) := by omega
  rw [hn]
  refine s_val (r_move rfl) ?_
  refine s_val (r_extract rfl rfl) ?_
  refine s_val (r_extract rfl rfl) ?_
  refine s_val (r_assign rfl) ?_
  refine s_val (r_assign rfl) ?_
  refine c_nil (l' := [_,_,_,_,_,_,_,_,_,_,_,_,_,_,_,_,_,_,_,_,_,_,_,_,_,_,_,_,_,_,_,_,_,_,_,_,_,_,_,_,_,_,_,_,_,_,_,_,_,_,_,_,_,_,_,_,_,_,_,_,_,_,_,_,_,_,_,_,_,_,_,_,_,_,_,_,_]) rfl ?_
  refine c_rseq (n := 77) ⟨rfl, rfl⟩ ?_
  refine s_new (m_alloc (cs := (fdV 0 0 bdZ)) H Try.zeroValue74 rfl) ?_
  intro w b10 H
  refine c_nil (l' := [_,_,_,_,_,_,_,_,_,_,_,_,_,_,_,_,_,_,_,_,_,_,_,_,_,_,_,_,_,_,_,_,_,_,_,_,_,_,_,_,_,_,_,_,_,_,_,_,_,_,_,_,_,_,_,_,_,_,_,_,_,_,_,_,_,_,_,_,_,_,_,_,_,_,_,_,_]) rfl ?_
  refine c_rseq (n := 77) ⟨rfl, rfl⟩ ?_
  refine s_new (m_alloc (cs := (kC zS)) H Try.zeroValue97 rfl) ?_
  intro w b11 H
  refine c_nil (l' := [_,_,_,_,_,_,_,_,_,_,_,_,_,_,_,_,_,_,_,_,_,_,_,_,_,_,_,_,_,_,_,_,_,_,_,_,_,_,_,_,_,_,_,_,_,_,_,_,_,_,_,_,_,_,_,_,_,_,_,_,_,_,_,_,_,_,_,_,_,_,_,_,_,_,_,_,_]) rfl ?_
  refine c_rseq (n := 77) ⟨rfl, rfl⟩ ?_
  refine s_val (r_assign rfl) ?_
  refine c_nil (l' := [_,_,_,_,_,_,_,_,_,_,_,_,_,_,_,_,_,_,_,_,_,_,_,_,_,_,_,_,_,_,_,_,_,_,_,_,_,_,_,_,_,_,_,_,_,_,_,_,_,_,_,_,_,_,_,_,_,_,_,_,_,_,_,_,_,_,_,_,_,_,_,_,_,_,_,_,_]) rfl ?_
  refine c_seq ?_
  refine c_rseq (n := 77) ⟨rfl, rfl⟩ ?_
  refine s_val (r_move rfl) ?_
  refine s_val (r_nilCheck rfl) ?_
  refine s_val (r_fieldAddr (k := 0) Try.runUnderlying91 rfl Try.sizeOf27 (by decide) rfl rfl) ?_
  refine s_val (r_load1 Try.isAgg27 rfl (H.at 3 rfl) rfl) ?_
  refine s_val (r_move rfl) ?_
  refine s_call (r_call Try.call68 (ec rfl (ec rfl en))) (both_spec bm x.C n hn0 hn1 _ (hm.rdM (by omega) H (fun p hp => (List.mem_cons_of_mem _ (List.mem_cons_of_mem _ (List.mem_cons_of_mem _ (List.mem_cons_of_mem _ (List.mem_cons_of_mem _ hp)))))))) ?_
  rintro v w ⟨aw, cw, Nw, rfl, hNw, HC⟩
  replace H : St w0 XN w (_ :: _ :: _ :: _ :: _ :: (Nw ++ Nm)) := St.mid4 (A := [_,_,_,_,_]) (H.call0 HC)
  refine s_val (r_lens Try.runUnderlying121 (ec rfl en)) ?_
  refine s_val (r_move rfl) ?_
  refine c_nil (l' := [_,_,_,_,_,_,_,_,_,_,_,_,_,_,_,_,_,_,_,_,_,_,_,_,_,_,_,_,_,_,_,_,_,_,_,_,_,_,_,_,_,_,_,_,_,_,_,_,_,_,_,_,_,_,_,_,_,_,_,_,_,_,_,_,_,_,_,_,_,_,_,_,_,_,_,_,_]) rfl ?_
  refine wp_block ?_
  refine c_loop (fun (l0 : List Value) (k : Nat) (l : List Value) (w : World) => ∃ (u14 u15 u16 u17 u36 u37 u38 u39 u40 u41 u42 u43 u44 u45 u46 u47 u48 u49 u50 u51 u52 u53 u54 u55 u56 u57 u58 u59 u60 u61 u62 u63 u64 u65 u66 : Value) (sm : Bool) (n0 g0 : Int) (bd : Bd) (sx : Sec) (NB : List (Nat × Obj)), l = ovr l0 [N_, N_, N_, N_, N_, N_, N_, N_, N_, N_, N_, N_, Y_ (.bool sm), N_, Y_ u14, Y_ u15, Y_ u16, Y_ u17, N_, N_, N_, N_, N_, N_, N_, N_, N_, N_, N_, N_, N_, N_, N_, N_, N_, Y_ (.int .i64 k), Y_ u36, Y_ u37, Y_ u38, Y_ u39, Y_ u40, Y_ u41, Y_ u42, Y_ u43, Y_ u44, Y_ u45, Y_ u46, Y_ u47, Y_ u48, Y_ u49, Y_ u50, Y_ u51, Y_ u52, Y_ u53, Y_ u54, Y_ u55, Y_ u56, Y_ u57, Y_ u58, Y_ u59, Y_ u60, Y_ u61, Y_ u62, Y_ u63, Y_ u64, Y_ u65, Y_ u66] ∧ k ≤ (bothK x.C n 2).length ∧ FndS 5 (sd x.C n.toNat) n sm n0 g0 bd sx NB ∧ (0 < k → sm = true) ∧ St w0 XN w ((b11, .cells (kC sx).toArray 97 (0, 0)) :: (b10, .cells (fdV n0 g0 bd).toArray 74 (0, 0)) :: (b6, .cells (fdV 0 0 bdZ).toArray 74 (0, 0)) :: (bl, .cells (lgC bm (.iface 72 (.agg (cs : List Value).toArray)) x.g x.z bu x.gens.length x.head x.slot x.known).toArray T (0, 0)) :: (bu, .cells (uC x.gens).toArray T2 (0, 0)) :: Nw ++ (NB ++ Nm))) (fun (k : Nat) => (bothK x.C n 2).length - k) 0 ⟨_,_,_,_,_,_,_,_,_,_,_,_,_,_,_,_,_,_,_,_,_,_,_,_,_,_,_,_,_,_,_,_,_,_,_, false, 0, 0, bdZ, zS, [], rfl, by omega, (.inl ⟨rfl, rfl, rfl, rfl, rfl, rfl⟩), (fun h => absurd h (Nat.lt_irrefl _)), H⟩ ?_
  intro k l w ⟨u14, u15, u16, u17, u36, u37, u38, u39, u40, u41, u42, u43, u44, u45, u46, u47, u48, u49, u50, u51, u52, u53, u54, u55, u56, u57, u58, u59, u60, u61, u62, u63, u64, u65, u66, sm, n0, g0, bd, sx, NB, hl, hk, hS, hk0, H⟩
  obtain rfl := hl.trans (rfl : _ = [_,_,_,_,_,_,_,_,_,_,_,_,_,_,_,_,_,_,_,_,_,_,_,_,_,_,_,_,_,_,_,_,_,_,_,_,_,_,_,_,_,_,_,_,_,_,_,_,_,_,_,_,_,_,_,_,_,_,_,_,_,_,_,_,_,_,_,_,_,_,_,_,_,_,_,_,_])
  clear hl
  have hbk := bothK_len x.C n 2
  refine c_rseq (n := 77) ⟨rfl, rfl⟩ ?_
  refine s_val (r_lss rfl rfl) ?_
  refine c_nil (l' := [_,_,_,_,_,_,_,_,_,_,_,_,_,_,_,_,_,_,_,_,_,_,_,_,_,_,_,_,_,_,_,_,_,_,_,_,_,_,_,_,_,_,_,_,_,_,_,_,_,_,_,_,_,_,_,_,_,_,_,_,_,_,_,_,_,_,_,_,_,_,_,_,_,_,_,_,_]) rfl ?_
  refine c_seq ?_
  refine c_if rfl (fun h36 => ?_) (fun h36 => ?_)
  · skip
    have hsl : Sealed n (sd x.C n.toNat) := both_pos (k := k) (by omega)
    obtain ⟨bw, spw, rfl, hcw, rfl, hcw2⟩ := hNw.some (by omega)
    rcases hS with ⟨rfl, rfl, rfl, rfl, rfl, rfl⟩ | ⟨rfl, _, rfl, rfl, rfl, hbb, hNB⟩
    · skip
      skip
      refine wp_skip ?_
      refine x_thenNormal ?_
      refine c_seq ?_
      refine wp_block ?_
      refine c_rseq (n := 77) ⟨rfl, rfl⟩ ?_
      refine s_val (r_indexAddrS Try.runUnderlying121 Try.sizeOf97 rfl rfl (by omega) (by omega)) ?_
      refine s_val (r_loadn Try.isAgg97 Try.sizeOf97 rfl (H.at 5 rfl) (both_td (k := k) (by omega) (by omega)) (by first | exact (kC_length _) | exact (hC_length _) | exact (shC_length _ _) | exact (wC_length _) | exact (sdC_length _ _) | exact (elFd.len _) | exact (fdV_length _ _ _) | exact (elFd.len _) | exact rfl)) ?_
      refine s_new (m_alloc (cs := (kC zS)) H Try.zeroValue97 rfl) ?_
      intro w b14 H
      refine s_st (m_storen H 0 128 Try.sizeOf97 rfl rfl (by first | exact (kC_length _) | exact (hC_length _) | exact (shC_length _ _) | exact (wC_length _) | exact (sdC_length _ _) | exact (elFd.len _) | exact (fdV_length _ _ _) | exact (elFd.len _)) (by first | exact (kC_one _) | exact (hC_one _) | exact (shC_one _ _) | exact (elW.one _) | exact (sdC_one _ _) | exact (elFd.one _) | exact (fdV_one _ _ _)) rfl (by first | exact (by rw [kC_length]; omega) | exact (by rw [hC_length]; omega) | exact (by rw [wC_length]; omega)) (by first | exact (kC_sp _ _) | exact (hC_sp _ _))) (L' := (_ :: _ :: _ :: _ :: _ :: _ :: _)) rfl ?_
      intro w H
      refine c_nil (l' := [_,_,_,_,_,_,_,_,_,_,_,_,_,_,_,_,_,_,_,_,_,_,_,_,_,_,_,_,_,_,_,_,_,_,_,_,_,_,_,_,_,_,_,_,_,_,_,_,_,_,_,_,_,_,_,_,_,_,_,_,_,_,_,_,_,_,_,_,_,_,_,_,_,_,_,_,_]) rfl ?_
      refine c_seq ?_
      refine d_begin (sz := 77) ⟨rfl, rfl⟩ (by kernel_rfl) H (H.sub (.cons_cons _ (.cons_cons _ (.cons_cons _ (.cons_cons _ (.cons_cons _ (.cons_cons _ (List.nil_sublist _)))))))) rfl ?_
      intro w H
      refine d_take (i := 0) rfl (by kernel_rfl) (fun _ _ _ h => h) (H.sub (.cons_cons _ (.cons_cons _ (.cons_cons _ (.cons_cons _ (.cons_cons _ (.cons_cons _ (List.nil_sublist _)))))))) (fun _ _ => r_move rfl) rfl ?_
      refine d_take (i := 1) rfl (by kernel_rfl) (fun _ _ _ h => h) (H.sub (.cons_cons _ (.cons_cons _ (.cons_cons _ (.cons_cons _ (.cons_cons _ (.cons_cons _ (List.nil_sublist _)))))))) (fun _ _ => r_nilCheck rfl) rfl ?_
      refine d_take (i := 2) rfl (by kernel_rfl) (fun _ _ _ h => h) (H.sub (.cons_cons _ (.cons_cons _ (.cons_cons _ (.cons_cons _ (.cons_cons _ (.cons_cons _ (List.nil_sublist _)))))))) (fun _ _ => r_fieldAddr (k := 1) Try.runUnderlying91 rfl Try.sizeOf89 (by decide) rfl rfl) rfl ?_
      refine d_take (i := 3) rfl (by kernel_rfl) (fun _ _ _ h => h) (H.sub (.cons_cons _ (.cons_cons _ (.cons_cons _ (.cons_cons _ (.cons_cons _ (.cons_cons _ (List.nil_sublist _)))))))) (fun _ HS => r_load1 Try.isAgg89 rfl (HS.at 4 rfl) rfl) rfl ?_
      refine d_take (i := 4) rfl (by kernel_rfl) (fun _ _ _ h => h) (H.sub (.cons_cons _ (.cons_cons _ (.cons_cons _ (.cons_cons _ (.cons_cons _ (.cons_cons _ (List.nil_sublist _)))))))) (fun _ _ => r_move rfl) rfl ?_
      refine d_take (i := 5) rfl (by kernel_rfl) (fun _ _ _ h => h) (H.sub (.cons_cons _ (.cons_cons _ (.cons_cons _ (.cons_cons _ (.cons_cons _ (.cons_cons _ (List.nil_sublist _)))))))) (fun _ HS => r_loadn Try.isAgg97 Try.sizeOf97 rfl (HS.at 0 rfl) (by first | exact (kC_td _) | exact (hC_td _) | exact (hC_seed _) | exact (shC_td _ _) | exact (sdC_td _ _) | exact (fdV_td _ _ _)) (by first | exact (kC_length _) | exact (hC_length _) | exact (shC_length _ _) | exact (wC_length _) | exact (sdC_length _ _) | exact (elFd.len _) | exact (fdV_length _ _ _) | exact (elFd.len _) | exact rfl)) rfl ?_
      refine d_all1 (i := 6) (by kernel_rfl) ?_
      refine b_call rfl go_none (r_call Try.call41 (ec rfl (ec rfl (ec rfl en)))) (unpack_yes cs n (by omega) (by omega) (sd x.C n.toNat) hsl _) rfl ?_
      rintro v w ⟨a2, cap2, N2, rfl, hN2, HC⟩
      replace H : St w0 XN w (_ :: _ :: _ :: _ :: _ :: _ :: ([(bw, _)] ++ (N2 ++ Nm))) := St.mid5 (A := [_,_,_,_,_,_]) (M := [_]) (H.call0 HC)
      refine ⟨(H.sub (.cons_cons _ (.cons_cons _ (.cons_cons _ (.cons_cons _ (.cons_cons _ (.cons_cons _ (List.nil_sublist _)))))))), ?_⟩
      refine d_take (i := 7) rfl (by kernel_rfl) (fun _ _ _ h => h) (H.sub (.cons_cons _ (.cons_cons _ (.cons_cons _ (.cons_cons _ (.cons_cons _ (.cons_cons _ (List.nil_sublist _)))))))) (fun _ _ => r_move rfl) rfl ?_
      refine d_take (i := 8) rfl (by kernel_rfl) (fun _ _ _ h => h) (H.sub (.cons_cons _ (.cons_cons _ (.cons_cons _ (.cons_cons _ (.cons_cons _ (.cons_cons _ (List.nil_sublist _)))))))) (fun _ _ => r_extract rfl rfl) rfl ?_
      refine d_take (i := 9) rfl (by kernel_rfl) (fun _ _ _ h => h) (H.sub (.cons_cons _ (.cons_cons _ (.cons_cons _ (.cons_cons _ (.cons_cons _ (.cons_cons _ (List.nil_sublist _)))))))) (fun _ _ => r_extract rfl rfl) rfl ?_
      refine d_take (i := 10) rfl (by kernel_rfl) (fun _ _ _ h => h) (H.sub (.cons_cons _ (.cons_cons _ (.cons_cons _ (.cons_cons _ (.cons_cons _ (.cons_cons _ (List.nil_sublist _)))))))) (fun _ _ => r_extract rfl rfl) rfl ?_
      refine d_take (i := 11) rfl (by kernel_rfl) (fun _ _ _ h => h) (H.sub (.cons_cons _ (.cons_cons _ (.cons_cons _ (.cons_cons _ (.cons_cons _ (.cons_cons _ (List.nil_sublist _)))))))) (fun _ _ => r_assign rfl) rfl ?_
      refine d_take (i := 12) rfl (by kernel_rfl) (fun _ _ _ h => h) (H.sub (.cons_cons _ (.cons_cons _ (.cons_cons _ (.cons_cons _ (.cons_cons _ (.cons_cons _ (List.nil_sublist _)))))))) (fun _ _ => r_assign rfl) rfl ?_
      refine d_take (i := 13) rfl (by kernel_rfl) (fun _ _ _ h => h) (H.sub (.cons_cons _ (.cons_cons _ (.cons_cons _ (.cons_cons _ (.cons_cons _ (.cons_cons _ (List.nil_sublist _)))))))) (fun _ _ => r_assign rfl) rfl ?_
      refine d_done (l' := [_,_,_,_,_,_,_,_,_,_,_,_,_,_,_,_,_,_,_,_,_,_,_,_,_,_,_,_,_,_,_,_,_,_,_,_,_,_,_,_,_,_,_,_,_,_,_,_,_,_,_,_,_,_,_,_,_,_,_,_,_,_,_,_,_,_,_,_,_,_,_,_,_,_,_,_,_]) (by kernel_rfl) rfl ?_
      refine x_thenNormal ?_
      refine c_rseq (n := 77) ⟨rfl, rfl⟩ ?_
      refine s_val (r_move rfl) ?_
      refine s_val (r_move rfl) ?_
      refine g_yes rfl rfl ?_
      refine s_val (r_move rfl) ?_
      refine g_yes rfl rfl ?_
      refine s_val (r_not rfl) ?_
      refine g_yes rfl rfl ?_
      refine s_val (r_move rfl) ?_
      refine g_no rfl rfl (by decide) ?_
      refine g_no rfl rfl (by decide) ?_
      refine g_no rfl rfl (by decide) ?_
      refine g_no rfl rfl (by decide) ?_
      refine g_yes rfl rfl ?_
      refine s_val (r_pickt rfl rfl) ?_
      refine s_val (r_pickt rfl rfl) ?_
      refine c_nil (l' := [_,_,_,_,_,_,_,_,_,_,_,_,_,_,_,_,_,_,_,_,_,_,_,_,_,_,_,_,_,_,_,_,_,_,_,_,_,_,_,_,_,_,_,_,_,_,_,_,_,_,_,_,_,_,_,_,_,_,_,_,_,_,_,_,_,_,_,_,_,_,_,_,_,_,_,_,_]) rfl ?_
      refine c_ift rfl ?_
      refine d_begin (sz := 77) ⟨rfl, rfl⟩ (by kernel_rfl) H (H.sub (.cons_cons _ (.cons _ (.cons _ (.cons_cons _ (.cons_cons _ (.cons_cons _ (List.nil_sublist _)))))))) rfl ?_
      intro w H
      refine d_take (i := 0) rfl (by kernel_rfl) (fun _ _ _ h => h) (H.sub (.cons_cons _ (.cons _ (.cons _ (.cons_cons _ (.cons_cons _ (.cons_cons _ (List.nil_sublist _)))))))) (fun _ _ => r_move rfl) rfl ?_
      refine d_take (i := 1) rfl (by kernel_rfl) (fun _ _ _ h => h) (H.sub (.cons_cons _ (.cons _ (.cons _ (.cons_cons _ (.cons_cons _ (.cons_cons _ (List.nil_sublist _)))))))) (fun _ _ => r_move rfl) rfl ?_
      refine d_take (i := 2) rfl (by kernel_rfl) (fun _ _ _ h => h) (H.sub (.cons_cons _ (.cons _ (.cons _ (.cons_cons _ (.cons_cons _ (.cons_cons _ (List.nil_sublist _)))))))) (fun _ _ => r_move rfl) rfl ?_
      refine d_take (i := 3) rfl (by kernel_rfl) (fun _ _ _ h => h) (H.sub (.cons_cons _ (.cons _ (.cons _ (.cons_cons _ (.cons_cons _ (.cons_cons _ (List.nil_sublist _)))))))) (fun _ _ => r_buildS Try.runUnderlying74 Try.zeroValue74 places74 (pc rfl (pc rfl (pc rfl pn))) (rfl : fillL _ _ _ = some (fdV n (genU (sd x.C n.toNat)) ⟨a2, bodyU (sd x.C n.toNat), cap2⟩))) rfl ?_
      refine d_take (i := 4) rfl (by kernel_rfl) (fun _ _ _ h => h) (H.sub (.cons_cons _ (.cons _ (.cons _ (.cons_cons _ (.cons_cons _ (.cons_cons _ (List.nil_sublist _)))))))) (fun _ HS => r_loadn Try.isAgg97 Try.sizeOf97 rfl (HS.at 0 rfl) (by first | exact (kC_td _) | exact (hC_td _) | exact (hC_seed _) | exact (shC_td _ _) | exact (sdC_td _ _) | exact (fdV_td _ _ _)) (by first | exact (kC_length _) | exact (hC_length _) | exact (shC_length _ _) | exact (wC_length _) | exact (sdC_length _ _) | exact (elFd.len _) | exact (fdV_length _ _ _) | exact (elFd.len _) | exact rfl)) rfl ?_
      refine d_all1 (i := 5) (by kernel_rfl) ?_
      refine b_st rfl go_none (m_storen H 2 3 Try.sizeOf74 rfl rfl (by first | exact (kC_length _) | exact (hC_length _) | exact (shC_length _ _) | exact (wC_length _) | exact (sdC_length _ _) | exact (elFd.len _) | exact (fdV_length _ _ _) | exact (elFd.len _)) (by first | exact (kC_one _) | exact (hC_one _) | exact (shC_one _ _) | exact (elW.one _) | exact (sdC_one _ _) | exact (elFd.one _) | exact (fdV_one _ _ _)) rfl (by show 0 + 3 ≤ 3; omega) (fdV_sp _ _ _ _ _ _)) (L' := (_ :: _ :: _ :: _ :: _ :: _ :: _)) rfl rfl (fun _ H => (H.sub (.cons_cons _ (.cons _ (.cons _ (.cons_cons _ (.cons_cons _ (.cons_cons _ (List.nil_sublist _))))))))) ?_
      intro w H
      refine d_all1 (i := 6) (by kernel_rfl) ?_
      refine b_st rfl go_none (m_storen H 1 128 Try.sizeOf97 rfl rfl (by first | exact (kC_length _) | exact (hC_length _) | exact (shC_length _ _) | exact (wC_length _) | exact (sdC_length _ _) | exact (elFd.len _) | exact (fdV_length _ _ _) | exact (elFd.len _)) (by first | exact (kC_one _) | exact (hC_one _) | exact (shC_one _ _) | exact (elW.one _) | exact (sdC_one _ _) | exact (elFd.one _) | exact (fdV_one _ _ _)) rfl (by first | exact (by rw [kC_length]; omega) | exact (by rw [hC_length]; omega) | exact (by rw [wC_length]; omega)) (by first | exact (kC_sp _ _) | exact (hC_sp _ _))) (L' := (_ :: _ :: _ :: _ :: _ :: _ :: _)) rfl rfl (fun _ H => (H.sub (.cons_cons _ (.cons _ (.cons _ (.cons_cons _ (.cons_cons _ (.cons_cons _ (List.nil_sublist _))))))))) ?_
      intro w H
      refine d_take (i := 7) rfl (by kernel_rfl) (fun _ _ _ h => h) (H.sub (.cons_cons _ (.cons _ (.cons _ (.cons_cons _ (.cons_cons _ (.cons_cons _ (List.nil_sublist _)))))))) (fun _ _ => r_assign rfl) rfl ?_
      refine d_done (l' := [_,_,_,_,_,_,_,_,_,_,_,_,_,_,_,_,_,_,_,_,_,_,_,_,_,_,_,_,_,_,_,_,_,_,_,_,_,_,_,_,_,_,_,_,_,_,_,_,_,_,_,_,_,_,_,_,_,_,_,_,_,_,_,_,_,_,_,_,_,_,_,_,_,_,_,_,_]) (by kernel_rfl) rfl ?_
      refine x_blockNormal ?_
      refine x_thenNormal ?_
      refine c_region (n := 77) ⟨rfl, rfl⟩ ?_
      refine s_val (r_add rfl rfl (w_i64 (by omega) (by omega))) ?_
      refine s_val (r_move rfl) ?_
      refine c_nil0 (l' := [_,_,_,_,_,_,_,_,_,_,_,_,_,_,_,_,_,_,_,_,_,_,_,_,_,_,_,_,_,_,_,_,_,_,_,_,_,_,_,_,_,_,_,_,_,_,_,_,_,_,_,_,_,_,_,_,_,_,_,_,_,_,_,_,_,_,_,_,_,_,_,_,_,_,_,_,_]) rfl ?_
      replace H := H.sub (.cons _ (.cons_cons _ (.cons_cons _ (.cons_cons _ (.cons_cons _ (.cons_cons _ (List.Sublist.refl _)))))))
      exact ⟨k + 1, _, rfl, ⟨_,_,_,_,_,_,_,_,_,_,_,_,_,_,_,_,_,_,_,_,_,_,_,_,_,_,_,_,_,_,_,_,_,_,_, true, n, (genU (sd x.C n.toNat)), ⟨a2, bodyU (sd x.C n.toNat), cap2⟩, (sd x.C n.toNat), N2, rfl, by omega, (.inr ⟨rfl, hsl, rfl, rfl, rfl, rfl, hN2⟩), (fun _ => rfl), H⟩, by omega⟩
    · skip
      skip
      refine wp_skip ?_
      refine x_thenNormal ?_
      refine c_seq ?_
      refine wp_block ?_
      refine c_rseq (n := 77) ⟨rfl, rfl⟩ ?_
      refine s_val (r_indexAddrS Try.runUnderlying121 Try.sizeOf97 rfl rfl (by omega) (by omega)) ?_
      refine s_val (r_loadn Try.isAgg97 Try.sizeOf97 rfl (H.at 5 rfl) (both_td (k := k) (by omega) (by omega)) (by first | exact (kC_length _) | exact (hC_length _) | exact (shC_length _ _) | exact (wC_length _) | exact (sdC_length _ _) | exact (elFd.len _) | exact (fdV_length _ _ _) | exact (elFd.len _) | exact rfl)) ?_
      refine s_new (m_alloc (cs := (kC zS)) H Try.zeroValue97 rfl) ?_
      intro w b14 H
      refine s_st (m_storen H 0 128 Try.sizeOf97 rfl rfl (by first | exact (kC_length _) | exact (hC_length _) | exact (shC_length _ _) | exact (wC_length _) | exact (sdC_length _ _) | exact (elFd.len _) | exact (fdV_length _ _ _) | exact (elFd.len _)) (by first | exact (kC_one _) | exact (hC_one _) | exact (shC_one _ _) | exact (elW.one _) | exact (sdC_one _ _) | exact (elFd.one _) | exact (fdV_one _ _ _)) rfl (by first | exact (by rw [kC_length]; omega) | exact (by rw [hC_length]; omega) | exact (by rw [wC_length]; omega)) (by first | exact (kC_sp _ _) | exact (hC_sp _ _))) (L' := (_ :: _ :: _ :: _ :: _ :: _ :: _)) rfl ?_
      intro w H
      refine c_nil (l' := [_,_,_,_,_,_,_,_,_,_,_,_,_,_,_,_,_,_,_,_,_,_,_,_,_,_,_,_,_,_,_,_,_,_,_,_,_,_,_,_,_,_,_,_,_,_,_,_,_,_,_,_,_,_,_,_,_,_,_,_,_,_,_,_,_,_,_,_,_,_,_,_,_,_,_,_,_]) rfl ?_
      refine c_seq ?_
      refine d_begin (sz := 77) ⟨rfl, rfl⟩ (by kernel_rfl) H (H.sub (.cons_cons _ (.cons_cons _ (.cons_cons _ (.cons_cons _ (.cons_cons _ (.cons_cons _ (List.nil_sublist _)))))))) rfl ?_
      intro w H
      refine d_take (i := 0) rfl (by kernel_rfl) (fun _ _ _ h => h) (H.sub (.cons_cons _ (.cons_cons _ (.cons_cons _ (.cons_cons _ (.cons_cons _ (.cons_cons _ (List.nil_sublist _)))))))) (fun _ _ => r_move rfl) rfl ?_
      refine d_take (i := 1) rfl (by kernel_rfl) (fun _ _ _ h => h) (H.sub (.cons_cons _ (.cons_cons _ (.cons_cons _ (.cons_cons _ (.cons_cons _ (.cons_cons _ (List.nil_sublist _)))))))) (fun _ _ => r_nilCheck rfl) rfl ?_
      refine d_take (i := 2) rfl (by kernel_rfl) (fun _ _ _ h => h) (H.sub (.cons_cons _ (.cons_cons _ (.cons_cons _ (.cons_cons _ (.cons_cons _ (.cons_cons _ (List.nil_sublist _)))))))) (fun _ _ => r_fieldAddr (k := 1) Try.runUnderlying91 rfl Try.sizeOf89 (by decide) rfl rfl) rfl ?_
      refine d_take (i := 3) rfl (by kernel_rfl) (fun _ _ _ h => h) (H.sub (.cons_cons _ (.cons_cons _ (.cons_cons _ (.cons_cons _ (.cons_cons _ (.cons_cons _ (List.nil_sublist _)))))))) (fun _ HS => r_load1 Try.isAgg89 rfl (HS.at 4 rfl) rfl) rfl ?_
      refine d_take (i := 4) rfl (by kernel_rfl) (fun _ _ _ h => h) (H.sub (.cons_cons _ (.cons_cons _ (.cons_cons _ (.cons_cons _ (.cons_cons _ (.cons_cons _ (List.nil_sublist _)))))))) (fun _ _ => r_move rfl) rfl ?_
      refine d_take (i := 5) rfl (by kernel_rfl) (fun _ _ _ h => h) (H.sub (.cons_cons _ (.cons_cons _ (.cons_cons _ (.cons_cons _ (.cons_cons _ (.cons_cons _ (List.nil_sublist _)))))))) (fun _ HS => r_loadn Try.isAgg97 Try.sizeOf97 rfl (HS.at 0 rfl) (by first | exact (kC_td _) | exact (hC_td _) | exact (hC_seed _) | exact (shC_td _ _) | exact (sdC_td _ _) | exact (fdV_td _ _ _)) (by first | exact (kC_length _) | exact (hC_length _) | exact (shC_length _ _) | exact (wC_length _) | exact (sdC_length _ _) | exact (elFd.len _) | exact (fdV_length _ _ _) | exact (elFd.len _) | exact rfl)) rfl ?_
      refine d_all1 (i := 6) (by kernel_rfl) ?_
      refine b_call rfl go_none (r_call Try.call41 (ec rfl (ec rfl (ec rfl en)))) (unpack_yes cs n (by omega) (by omega) (sd x.C n.toNat) hsl _) rfl ?_
      rintro v w ⟨a2, cap2, N2, rfl, hN2, HC⟩
      replace H := (H.call0 HC).sub (List.sublist_append_right _ _)
      refine ⟨(H.sub (.cons_cons _ (.cons_cons _ (.cons_cons _ (.cons_cons _ (.cons_cons _ (.cons_cons _ (List.nil_sublist _)))))))), ?_⟩
      refine d_take (i := 7) rfl (by kernel_rfl) (fun _ _ _ h => h) (H.sub (.cons_cons _ (.cons_cons _ (.cons_cons _ (.cons_cons _ (.cons_cons _ (.cons_cons _ (List.nil_sublist _)))))))) (fun _ _ => r_move rfl) rfl ?_
      refine d_take (i := 8) rfl (by kernel_rfl) (fun _ _ _ h => h) (H.sub (.cons_cons _ (.cons_cons _ (.cons_cons _ (.cons_cons _ (.cons_cons _ (.cons_cons _ (List.nil_sublist _)))))))) (fun _ _ => r_extract rfl rfl) rfl ?_
      refine d_take (i := 9) rfl (by kernel_rfl) (fun _ _ _ h => h) (H.sub (.cons_cons _ (.cons_cons _ (.cons_cons _ (.cons_cons _ (.cons_cons _ (.cons_cons _ (List.nil_sublist _)))))))) (fun _ _ => r_extract rfl rfl) rfl ?_
      refine d_take (i := 10) rfl (by kernel_rfl) (fun _ _ _ h => h) (H.sub (.cons_cons _ (.cons_cons _ (.cons_cons _ (.cons_cons _ (.cons_cons _ (.cons_cons _ (List.nil_sublist _)))))))) (fun _ _ => r_extract rfl rfl) rfl ?_
      refine d_take (i := 11) rfl (by kernel_rfl) (fun _ _ _ h => h) (H.sub (.cons_cons _ (.cons_cons _ (.cons_cons _ (.cons_cons _ (.cons_cons _ (.cons_cons _ (List.nil_sublist _)))))))) (fun _ _ => r_assign rfl) rfl ?_
      refine d_take (i := 12) rfl (by kernel_rfl) (fun _ _ _ h => h) (H.sub (.cons_cons _ (.cons_cons _ (.cons_cons _ (.cons_cons _ (.cons_cons _ (.cons_cons _ (List.nil_sublist _)))))))) (fun _ _ => r_assign rfl) rfl ?_
      refine d_take (i := 13) rfl (by kernel_rfl) (fun _ _ _ h => h) (H.sub (.cons_cons _ (.cons_cons _ (.cons_cons _ (.cons_cons _ (.cons_cons _ (.cons_cons _ (List.nil_sublist _)))))))) (fun _ _ => r_assign rfl) rfl ?_
      refine d_done (l' := [_,_,_,_,_,_,_,_,_,_,_,_,_,_,_,_,_,_,_,_,_,_,_,_,_,_,_,_,_,_,_,_,_,_,_,_,_,_,_,_,_,_,_,_,_,_,_,_,_,_,_,_,_,_,_,_,_,_,_,_,_,_,_,_,_,_,_,_,_,_,_,_,_,_,_,_,_]) (by kernel_rfl) rfl ?_
      refine x_thenNormal ?_
      refine c_rseq (n := 77) ⟨rfl, rfl⟩ ?_
      refine s_val (r_move rfl) ?_
      refine s_val (r_move rfl) ?_
      refine g_yes rfl rfl ?_
      refine s_val (r_move rfl) ?_
      refine g_yes rfl rfl ?_
      refine s_val (r_not rfl) ?_
      refine g_yes rfl rfl ?_
      refine s_val (r_move rfl) ?_
      refine g_yes rfl rfl ?_
      refine s_val (r_move rfl) ?_
      refine g_yes rfl rfl ?_
      refine s_val (r_fieldAddr (k := 1) Try.runUnderlying74 rfl Try.sizeOf36 (by decide) rfl rfl) ?_
      refine g_yes rfl rfl ?_
      refine s_val (r_load1 Try.isAgg36 rfl (H.at 2 rfl) rfl) ?_
      refine g_yes rfl rfl ?_
      refine s_val (r_gtr rfl rfl) ?_
      refine g_yes rfl rfl ?_
      refine s_val (r_pickf rfl rfl) ?_
      refine s_val (r_pickt rfl rfl) ?_
      refine c_nil (l' := [_,_,_,_,_,_,_,_,_,_,_,_,_,_,_,_,_,_,_,_,_,_,_,_,_,_,_,_,_,_,_,_,_,_,_,_,_,_,_,_,_,_,_,_,_,_,_,_,_,_,_,_,_,_,_,_,_,_,_,_,_,_,_,_,_,_,_,_,_,_,_,_,_,_,_,_,_]) rfl ?_
      refine c_if rfl (fun h60 => ?_) (fun h60 => ?_)
      · skip
        exfalso; omega
      · skip
        refine wp_skip ?_
        refine x_blockNormal ?_
        refine x_thenNormal ?_
        refine c_region (n := 77) ⟨rfl, rfl⟩ ?_
        refine s_val (r_add rfl rfl (w_i64 (by omega) (by omega))) ?_
        refine s_val (r_move rfl) ?_
        refine c_nil0 (l' := [_,_,_,_,_,_,_,_,_,_,_,_,_,_,_,_,_,_,_,_,_,_,_,_,_,_,_,_,_,_,_,_,_,_,_,_,_,_,_,_,_,_,_,_,_,_,_,_,_,_,_,_,_,_,_,_,_,_,_,_,_,_,_,_,_,_,_,_,_,_,_,_,_,_,_,_,_]) rfl ?_
        replace H := H.sub (.cons _ (.cons_cons _ (.cons_cons _ (.cons_cons _ (.cons_cons _ (.cons_cons _ (List.Sublist.refl _)))))))
        exact ⟨k + 1, _, rfl, ⟨_,_,_,_,_,_,_,_,_,_,_,_,_,_,_,_,_,_,_,_,_,_,_,_,_,_,_,_,_,_,_,_,_,_,_, true, n, (genU (sd x.C n.toNat)), bd, (sd x.C n.toNat), NB, rfl, by omega, (.inr ⟨rfl, hsl, rfl, rfl, rfl, hbb, hNB⟩), (fun _ => rfl), H⟩, by omega⟩
  · skip
    replace H := St.drop3 (A := [_,_,_,_,_]) H
    rcases hS with ⟨rfl, rfl, rfl, rfl, rfl, rfl⟩ | ⟨rfl, hsl, rfl, rfl, rfl, hbb, hNB⟩
    · skip
      skip
      refine wp_exit (x_thenExit (x_thenExit (x_blockHit ?_)))
      refine x_thenNormal ?_
      refine c_seq ?_
      refine c_rseq (n := 77) ⟨rfl, rfl⟩ ?_
      refine s_val (r_move rfl) ?_
      refine c_nil (l' := [_,_,_,_,_,_,_,_,_,_,_,_,_,_,_,_,_,_,_,_,_,_,_,_,_,_,_,_,_,_,_,_,_,_,_,_,_,_,_,_,_,_,_,_,_,_,_,_,_,_,_,_,_,_,_,_,_,_,_,_,_,_,_,_,_,_,_,_,_,_,_,_,_,_,_,_,_]) rfl ?_
      refine c_iff rfl ?_
      refine wp_skip ?_
      refine x_thenNormal ?_
      refine c_rseq (n := 77) ⟨rfl, rfl⟩ ?_
      refine s_val (r_loadn Try.isAgg74 Try.sizeOf74 rfl (H.at 1 rfl) (by first | exact (kC_td _) | exact (hC_td _) | exact (hC_seed _) | exact (shC_td _ _) | exact (sdC_td _ _) | exact (fdV_td _ _ _)) (by first | exact (kC_length _) | exact (hC_length _) | exact (shC_length _ _) | exact (wC_length _) | exact (sdC_length _ _) | exact (elFd.len _) | exact (fdV_length _ _ _) | exact (elFd.len _) | exact rfl)) ?_
      refine s_val (r_move rfl) ?_
      refine s_st (m_storen H 2 3 Try.sizeOf74 rfl rfl (by first | exact (kC_length _) | exact (hC_length _) | exact (shC_length _ _) | exact (wC_length _) | exact (sdC_length _ _) | exact (elFd.len _) | exact (fdV_length _ _ _) | exact (elFd.len _)) (by first | exact (kC_one _) | exact (hC_one _) | exact (shC_one _ _) | exact (elW.one _) | exact (sdC_one _ _) | exact (elFd.one _) | exact (fdV_one _ _ _)) rfl (by show 0 + 3 ≤ 3; omega) (fdV_sp _ _ _ _ _ _)) (L' := (_ :: _ :: _ :: _ :: _ :: _)) rfl ?_
      intro w H
      refine s_val (r_assign rfl) ?_
      refine c_nil (l' := [_,_,_,_,_,_,_,_,_,_,_,_,_,_,_,_,_,_,_,_,_,_,_,_,_,_,_,_,_,_,_,_,_,_,_,_,_,_,_,_,_,_,_,_,_,_,_,_,_,_,_,_,_,_,_,_,_,_,_,_,_,_,_,_,_,_,_,_,_,_,_,_,_,_,_,_,_]) rfl ?_
      refine wp_ret ?_
      refine e_ret (rc_two rfl (rc_celln Try.isAgg74 Try.sizeOf74 rfl (H.at 2 rfl) (by first | exact (kC_td _) | exact (hC_td _) | exact (hC_seed _) | exact (shC_td _ _) | exact (sdC_td _ _) | exact (fdV_td _ _ _)) (by first | exact (kC_length _) | exact (hC_length _) | exact (shC_length _ _) | exact (wC_length _) | exact (sdC_length _ _) | exact (elFd.len _) | exact (fdV_length _ _ _) | exact (elFd.len _))) (rc_tmp rfl)) ⟨_, rfl, ?_⟩
      rw [← hXN]
      have hns : ¬ Sealed n (sd x.C n.toNat) := fun hs => by
        have h1 := both_two hs
        have h2 := hk0 (by omega)
        cases h2
      exact .inr ⟨hns, _, rfl, ⟨cs, bu, T, T2, Nm, rfl, hm, hF⟩, H.sub (.cons _ (.cons _ (.cons _ (List.Sublist.refl _))))⟩
    · skip
      skip
      refine wp_exit (x_thenExit (x_thenExit (x_blockHit ?_)))
      refine x_thenNormal ?_
      refine c_seq ?_
      refine c_rseq (n := 77) ⟨rfl, rfl⟩ ?_
      refine s_val (r_move rfl) ?_
      refine c_nil (l' := [_,_,_,_,_,_,_,_,_,_,_,_,_,_,_,_,_,_,_,_,_,_,_,_,_,_,_,_,_,_,_,_,_,_,_,_,_,_,_,_,_,_,_,_,_,_,_,_,_,_,_,_,_,_,_,_,_,_,_,_,_,_,_,_,_,_,_,_,_,_,_,_,_,_,_,_,_]) rfl ?_
      refine c_ift rfl ?_
      refine d_begin (sz := 77) ⟨rfl, rfl⟩ (by kernel_rfl) H (H.sub (.cons_cons _ (.cons_cons _ (.cons_cons _ (.cons_cons _ (.cons_cons _ (List.nil_sublist _))))))) rfl ?_
      intro w H
      refine d_take (i := 0) rfl (by kernel_rfl) (fun _ _ _ h => h) (H.sub (.cons_cons _ (.cons_cons _ (.cons_cons _ (.cons_cons _ (.cons_cons _ (List.nil_sublist _))))))) (fun _ _ => r_move rfl) rfl ?_
      refine d_take (i := 1) rfl (by kernel_rfl) (fun _ _ _ h => h) (H.sub (.cons_cons _ (.cons_cons _ (.cons_cons _ (.cons_cons _ (.cons_cons _ (List.nil_sublist _))))))) (fun _ _ => r_nilCheck rfl) rfl ?_
      refine d_take (i := 2) rfl (by kernel_rfl) (fun _ _ _ h => h) (H.sub (.cons_cons _ (.cons_cons _ (.cons_cons _ (.cons_cons _ (.cons_cons _ (List.nil_sublist _))))))) (fun _ _ => r_fieldAddr (k := 0) Try.runUnderlying91 rfl Try.sizeOf27 (by decide) rfl rfl) rfl ?_
      refine d_take (i := 3) rfl (by kernel_rfl) (fun _ _ _ h => h) (H.sub (.cons_cons _ (.cons_cons _ (.cons_cons _ (.cons_cons _ (.cons_cons _ (List.nil_sublist _))))))) (fun _ HS => r_load1 Try.isAgg27 rfl (HS.at 3 rfl) rfl) rfl ?_
      refine d_take (i := 4) rfl (by kernel_rfl) (fun _ _ _ h => h) (H.sub (.cons_cons _ (.cons_cons _ (.cons_cons _ (.cons_cons _ (.cons_cons _ (List.nil_sublist _))))))) (fun _ _ => r_move rfl) rfl ?_
      refine d_take (i := 5) rfl (by kernel_rfl) (fun _ _ _ h => h) (H.sub (.cons_cons _ (.cons_cons _ (.cons_cons _ (.cons_cons _ (.cons_cons _ (List.nil_sublist _))))))) (fun _ HS => r_loadn Try.isAgg97 Try.sizeOf97 rfl (HS.at 0 rfl) (by first | exact (kC_td _) | exact (hC_td _) | exact (hC_seed _) | exact (shC_td _ _) | exact (sdC_td _ _) | exact (fdV_td _ _ _)) (by first | exact (kC_length _) | exact (hC_length _) | exact (shC_length _ _) | exact (wC_length _) | exact (sdC_length _ _) | exact (elFd.len _) | exact (fdV_length _ _ _) | exact (elFd.len _) | exact rfl)) rfl ?_
      refine d_all1 (i := 6) (by kernel_rfl) ?_
      refine b_call rfl go_none (r_call Try.call69 (ec rfl (ec rfl (ec rfl en)))) (choose_spec bm x.C q Nm (by omega) n (sd x.C n.toNat) hn0 hn1 rfl _ hm (H.ownsM (.cons _ (.cons _ (.cons _ (.cons _ (.cons _ (List.sublist_append_right _ _)))))))) rfl ?_
      rintro v w ⟨rfl, N3, hm3, HC⟩
      replace H : St w0 XN w (_ :: _ :: _ :: _ :: _ :: (NB ++ N3)) := St.call3 (A := [_,_,_,_,_]) H HC
      refine ⟨(H.sub (.cons_cons _ (.cons_cons _ (.cons_cons _ (.cons_cons _ (.cons_cons _ (List.nil_sublist _))))))), ?_⟩
      refine d_done (l' := [_,_,_,_,_,_,_,_,_,_,_,_,_,_,_,_,_,_,_,_,_,_,_,_,_,_,_,_,_,_,_,_,_,_,_,_,_,_,_,_,_,_,_,_,_,_,_,_,_,_,_,_,_,_,_,_,_,_,_,_,_,_,_,_,_,_,_,_,_,_,_,_,_,_,_,_,_]) (by kernel_rfl) rfl ?_
      refine x_thenNormal ?_
      refine c_rseq (n := 77) ⟨rfl, rfl⟩ ?_
      refine s_val (r_loadn Try.isAgg74 Try.sizeOf74 rfl (H.at 1 rfl) (by first | exact (kC_td _) | exact (hC_td _) | exact (hC_seed _) | exact (shC_td _ _) | exact (sdC_td _ _) | exact (fdV_td _ _ _)) (by first | exact (kC_length _) | exact (hC_length _) | exact (shC_length _ _) | exact (wC_length _) | exact (sdC_length _ _) | exact (elFd.len _) | exact (fdV_length _ _ _) | exact (elFd.len _) | exact rfl)) ?_
      refine s_val (r_move rfl) ?_
      refine s_st (m_storen H 2 3 Try.sizeOf74 rfl rfl (by first | exact (kC_length _) | exact (hC_length _) | exact (shC_length _ _) | exact (wC_length _) | exact (sdC_length _ _) | exact (elFd.len _) | exact (fdV_length _ _ _) | exact (elFd.len _)) (by first | exact (kC_one _) | exact (hC_one _) | exact (shC_one _ _) | exact (elW.one _) | exact (sdC_one _ _) | exact (elFd.one _) | exact (fdV_one _ _ _)) rfl (by show 0 + 3 ≤ 3; omega) (fdV_sp _ _ _ _ _ _)) (L' := (_ :: _ :: _ :: _ :: _ :: _)) rfl ?_
      intro w H
      refine s_val (r_assign rfl) ?_
      refine c_nil (l' := [_,_,_,_,_,_,_,_,_,_,_,_,_,_,_,_,_,_,_,_,_,_,_,_,_,_,_,_,_,_,_,_,_,_,_,_,_,_,_,_,_,_,_,_,_,_,_,_,_,_,_,_,_,_,_,_,_,_,_,_,_,_,_,_,_,_,_,_,_,_,_,_,_,_,_,_,_]) rfl ?_
      refine wp_ret ?_
      refine e_ret (rc_two rfl (rc_celln Try.isAgg74 Try.sizeOf74 rfl (H.at 2 rfl) (by first | exact (kC_td _) | exact (hC_td _) | exact (hC_seed _) | exact (shC_td _ _) | exact (sdC_td _ _) | exact (fdV_td _ _ _)) (by first | exact (kC_length _) | exact (hC_length _) | exact (shC_length _ _) | exact (wC_length _) | exact (sdC_length _ _) | exact (elFd.len _) | exact (fdV_length _ _ _) | exact (elFd.len _))) (rc_tmp rfl)) ⟨_, rfl, ?_⟩
      rw [← hXN]
      exact .inl ⟨hsl, bd, NB, _, rfl, hbb, hNB, ⟨cs, bu, T, T2, N3, rfl, hm3, hF⟩, St.mid4 (No := [_,_]) (H.sub (.cons _ (.cons _ (.cons _ (List.Sublist.refl _)))))⟩

end Go.Proofs.Ytbjalofmamoffaa

