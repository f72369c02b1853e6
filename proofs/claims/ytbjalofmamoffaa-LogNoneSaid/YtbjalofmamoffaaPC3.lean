import Derived.Test.YtbjalofmamoffaaPC2
namespace Go.Proofs.Ytbjalofmamoffaa
open Go Go.Er
set_option linter.unusedSimpArgs false in
theorem places91 : Places Try.prog #[⟨ "m", 27, 0, false, "", "erewhile/log", 0⟩, ⟨ "c", 89, 1, false, "", "erewhile/log", 8⟩, ⟨ "s", 30, 2, false, "", "erewhile/log", 24⟩, ⟨ "gens", 35, 4, false, "", "erewhile/log", 40⟩, ⟨ "head", 3, 5, false, "", "erewhile/log", 64⟩, ⟨ "slot", 3, 6, false, "", "erewhile/log", 72⟩, ⟨ "known", 36, 7, false, "", "erewhile/log", 80⟩] [(0, 1), (1, 1), (2, 2), (4, 1), (5, 1), (6, 1), (7, 1)] := fun w => by simp [Try.sizeOf27 w, Try.sizeOf3 w, Try.sizeOf30 w, Try.sizeOf35 w, Try.sizeOf36 w, Try.sizeOf89 w]

theorem mir_mono {ba bb bm q q' : Nat} {C : List Sec} {N : List (Nat × Obj)} (h : MirN 150 51 89 72 ba bb bm C q N) (hq : q ≤ q') : MirN 150 51 89 72 ba bb bm C q' N := by
  obtain ⟨ma, mb, bg, cs, bp, lf, ac, nc, cc, T, Tp, Na, Nb, rfl, hA, hB, hl⟩ := h
  exact ⟨ma, mb, bg, cs, bp, lf, ac, nc, cc, T, Tp, Na, Nb, rfl, hA.mono hq, hB.mono hq, hl⟩

set_option maxHeartbeats 4000000 in
theorem append_spec {ba bb : Nat} (bl : Nat) (x : LS) (q : Nat) (N : List (Nat × Obj)) (hq : q ≤ 80000) (hk : x.known + 1 < 1000000000) (a : Option Addr) (cap : Nat) (body : List UInt8) (w0 : World) (hrX : ∀ w L, St w0 (N.map (·.1)) w L → BRow w a body) (hg : LogN 150 51 89 72 ba bb bl x q N) (hown : Go.Er.Own w0 N) :
    Calls Try.prog 15 #[.pointer (some ⟨bl, 0, none⟩), .slice a body.length cap] w0 fun e w => ∃ v, e = .returned v ∧ (v = .tuple #[.int .i64 (appL x body).2.1, .int .i64 (appL x body).2.2] ∧ ∃ N', LogN 150 51 89 72 ba bb bl (appL x body).1 (q + 1) N' ∧ St w0 (N.map (·.1)) w N') := by
  obtain ⟨XN, hXN⟩ : ∃ X, X = N.map (·.1) := ⟨_, rfl⟩
  have H : St w0 XN w0 N := by rw [hXN]; exact hown.st
  have hg2 := hg
  rw [← hXN] at hrX
  obtain ⟨bm, cs, bu, T, T2, Nm, rfl, hm, hF⟩ := hg2
  obtain ⟨fg0, fg1, fz0, fz1, fgl, fcl, fu, ⟨fh0, fh1⟩, ⟨fs0, fs1⟩, ⟨fk0, fk1⟩, fkg⟩ := id hF
  refine c_enter (args := [.pointer (some ⟨bl, 0, none⟩), .slice a body.length cap]) (l := [.pointer (some ⟨bl, 0, none⟩), .slice a body.length cap, undef, undef, undef, undef, undef, undef, undef, undef, undef, undef, undef, undef, undef, undef, undef, undef, undef, undef, undef, undef, undef, undef, undef, undef, undef, undef, undef, undef, undef, undef, undef, undef, undef, undef, undef, undef, undef, undef, undef, undef, undef, undef, undef, undef, undef, undef, undef, undef, undef, undef, undef, undef, undef, undef, undef, undef, undef, undef, undef, undef, undef, undef, undef, undef, undef, undef, undef, undef, undef, undef, undef, undef, undef, undef, undef, undef, undef, undef, undef, undef, undef, undef, undef, undef, undef, undef]) Try.func15 Try.ntmps15 rfl rfl ?_
  refine c_rseq (n := 88) ⟨rfl, rfl⟩ ?_
  refine s_val (r_assign rfl) ?_
  refine s_val (r_assign rfl) ?_
  refine c_nil (l' := [_,_,_,_,_,_,_,_,_,_,_,_,_,_,_,_,_,_,_,_,_,_,_,_,_,_,_,_,_,_,_,_,_,_,_,_,_,_,_,_,_,_,_,_,_,_,_,_,_,_,_,_,_,_,_,_,_,_,_,_,_,_,_,_,_,_,_,_,_,_,_,_,_,_,_,_,_,_,_,_,_,_,_,_,_,_,_,_]) rfl ?_
  refine c_seq ?_
  refine wp_block ?_
  refine c_rseq (n := 88) ⟨rfl, rfl⟩ ?_
  refine s_val (r_move rfl) ?_
  refine s_val (r_nilpF Try.runUnderlying28 rfl rfl) ?_
  refine s_val (r_assign rfl) ?_
  refine c_nil (l' := [_,_,_,_,_,_,_,_,_,_,_,_,_,_,_,_,_,_,_,_,_,_,_,_,_,_,_,_,_,_,_,_,_,_,_,_,_,_,_,_,_,_,_,_,_,_,_,_,_,_,_,_,_,_,_,_,_,_,_,_,_,_,_,_,_,_,_,_,_,_,_,_,_,_,_,_,_,_,_,_,_,_,_,_,_,_,_,_]) rfl ?_
  refine c_iff rfl ?_
  refine c_rseq (n := 88) ⟨rfl, rfl⟩ ?_
  refine s_val (r_move rfl) ?_
  refine s_val (r_lens Try.runUnderlying40 (ec rfl en)) ?_
  refine s_val (r_gtr rfl rfl) ?_
  refine s_val (r_assign rfl) ?_
  refine c_nil (l' := [_,_,_,_,_,_,_,_,_,_,_,_,_,_,_,_,_,_,_,_,_,_,_,_,_,_,_,_,_,_,_,_,_,_,_,_,_,_,_,_,_,_,_,_,_,_,_,_,_,_,_,_,_,_,_,_,_,_,_,_,_,_,_,_,_,_,_,_,_,_,_,_,_,_,_,_,_,_,_,_,_,_,_,_,_,_,_,_]) rfl ?_
  refine c_if rfl (fun h18 => ?_) (fun h18 => ?_)
  · skip
    refine c_rseq (n := 88) ⟨rfl, rfl⟩ ?_
    refine s_val (r_assign rfl) ?_
    refine s_val (r_assign rfl) ?_
    refine c_nil (l' := [_,_,_,_,_,_,_,_,_,_,_,_,_,_,_,_,_,_,_,_,_,_,_,_,_,_,_,_,_,_,_,_,_,_,_,_,_,_,_,_,_,_,_,_,_,_,_,_,_,_,_,_,_,_,_,_,_,_,_,_,_,_,_,_,_,_,_,_,_,_,_,_,_,_,_,_,_,_,_,_,_,_,_,_,_,_,_,_]) rfl ?_
    refine wp_ret (x_blockRet (x_thenRet ?_))
    refine e_ret (res2 rfl rfl rfl) ⟨_, rfl, ?_⟩
    have hap : appL x body = (x, 0, 3) := by unfold appL; rw [if_pos (by omega)]
    rw [hap, ← hXN]
    exact ⟨rfl, _, ⟨bm, cs, bu, T, T2, Nm, rfl, mir_mono hm (by omega), hF⟩, H⟩
  · skip
    refine wp_skip ?_
    refine x_blockNormal ?_
    refine x_thenNormal ?_
    refine c_rseq (n := 88) ⟨rfl, rfl⟩ ?_
    refine s_val (r_move rfl) ?_
    refine s_call (r_call Try.call33 (ec rfl en)) (next_spec bl x _ (hg.rdM (by omega) H (fun p hp => hp))) ?_
    rintro v w ⟨(⟨hh, hsz, rfl⟩ | ⟨hno, rfl⟩), HC⟩
    · skip
      replace H := H.quiet HC
      have hs0 : 0 ≤ x.head := hh
      have hs1 : x.head < x.g := fh1
      have ht0 : 0 ≤ x.slot := fs0
      have ht1 : x.slot < x.z := hsz
      obtain ⟨hgn0, _⟩ := fu.get (i := x.head.toNat) (by omega)
      have hgn1 : x.gens.getD x.head.toNat 0 ≤ x.known + 1 := by have := fkg _ (getD_mem (ns := x.gens) (i := x.head.toNat) (by omega)); omega
      refine s_val (r_move rfl) ?_
      refine s_val (r_extract rfl rfl) ?_
      refine s_val (r_extract rfl rfl) ?_
      refine s_val (r_extract rfl rfl) ?_
      refine s_val (r_extract rfl rfl) ?_
      refine s_val (r_assign rfl) ?_
      refine s_val (r_assign rfl) ?_
      refine s_val (r_assign rfl) ?_
      refine s_val (r_assign rfl) ?_
      refine c_nil (l' := [_,_,_,_,_,_,_,_,_,_,_,_,_,_,_,_,_,_,_,_,_,_,_,_,_,_,_,_,_,_,_,_,_,_,_,_,_,_,_,_,_,_,_,_,_,_,_,_,_,_,_,_,_,_,_,_,_,_,_,_,_,_,_,_,_,_,_,_,_,_,_,_,_,_,_,_,_,_,_,_,_,_,_,_,_,_,_,_]) rfl ?_
      refine c_seq ?_
      refine c_rseq (n := 88) ⟨rfl, rfl⟩ ?_
      refine s_val (r_move rfl) ?_
      refine s_val (r_not rfl) ?_
      refine c_nil (l' := [_,_,_,_,_,_,_,_,_,_,_,_,_,_,_,_,_,_,_,_,_,_,_,_,_,_,_,_,_,_,_,_,_,_,_,_,_,_,_,_,_,_,_,_,_,_,_,_,_,_,_,_,_,_,_,_,_,_,_,_,_,_,_,_,_,_,_,_,_,_,_,_,_,_,_,_,_,_,_,_,_,_,_,_,_,_,_,_]) rfl ?_
      refine c_iff rfl ?_
      refine wp_skip ?_
      refine x_thenNormal ?_
      refine c_rseq (n := 88) ⟨rfl, rfl⟩ ?_
      refine s_val (r_move rfl) ?_
      refine s_val (r_nilCheck rfl) ?_
      refine s_val (r_fieldAddr (k := 2) Try.runUnderlying91 rfl Try.sizeOf30 (by decide) rfl rfl) ?_
      refine s_val (r_loadn Try.isAgg30 Try.sizeOf30 rfl (H.at 0 rfl) (lgC_sh _ _ _ _ _ _ _ _ _) (by first | exact (kC_length _) | exact (hC_length _) | exact (shC_length _ _) | exact (wC_length _) | exact (sdC_length _ _) | exact rfl)) ?_
      refine s_val (r_move rfl) ?_
      refine s_val (r_move rfl) ?_
      refine s_call (r_call Try.call34 (ec rfl (ec rfl (ec rfl en)))) (sector_spec x.g x.z fg0 fg1 fz0 fz1 x.head x.slot hs0 hs1 ht0 ht1 _) ?_
      rintro v w ⟨rfl, HC⟩
      replace H := H.quiet HC
      have hgz := gz_rng (g := x.g) (z := x.z) (by omega) fg1 (by omega) fz1
      have hszr := sz_rng hs0 hs1 (z := x.z) (by omega)
      refine s_val (r_move rfl) ?_
      refine s_val (r_extract rfl rfl) ?_
      refine s_val (r_extract rfl rfl) ?_
      refine s_val (r_assign rfl) ?_
      refine s_val (r_assign rfl) ?_
      refine c_nil (l' := [_,_,_,_,_,_,_,_,_,_,_,_,_,_,_,_,_,_,_,_,_,_,_,_,_,_,_,_,_,_,_,_,_,_,_,_,_,_,_,_,_,_,_,_,_,_,_,_,_,_,_,_,_,_,_,_,_,_,_,_,_,_,_,_,_,_,_,_,_,_,_,_,_,_,_,_,_,_,_,_,_,_,_,_,_,_,_,_]) rfl ?_
      refine c_rseq (n := 88) ⟨rfl, rfl⟩ ?_
      refine s_val (r_move rfl) ?_
      refine s_val (r_nilCheck rfl) ?_
      refine s_val (r_fieldAddr (k := 1) Try.runUnderlying91 rfl Try.sizeOf89 (by decide) rfl rfl) ?_
      refine s_val (r_load1 Try.isAgg89 rfl (H.at 0 rfl) rfl) ?_
      refine s_val (r_move rfl) ?_
      refine s_val (r_move rfl) ?_
      refine s_val (r_move rfl) ?_
      refine s_call (r_call Try.call35 (ec rfl (ec rfl (ec rfl (ec rfl en))))) (pack_spec cs (2 + x.head * x.z + x.slot) (x.gens.getD x.head.toNat 0) (by omega) (by omega) hgn0 (by omega) a cap body (by omega) _ (hrX _ _ H)) ?_
      rintro v w ⟨rfl, HC⟩
      replace H := H.quiet HC
      refine s_val (r_move rfl) ?_
      refine s_val (r_extract rfl rfl) ?_
      refine s_val (r_extract rfl rfl) ?_
      refine s_new (m_alloc (cs := (kC zS)) H Try.zeroValue97 rfl) ?_
      intro w b12 H
      refine s_st (m_storen H 0 128 Try.sizeOf97 rfl rfl (by first | exact (kC_length _) | exact (hC_length _) | exact (shC_length _ _) | exact (wC_length _) | exact (sdC_length _ _)) (by first | exact (kC_one _) | exact (hC_one _) | exact (shC_one _ _) | exact (elW.one _) | exact (sdC_one _ _)) rfl (by first | exact (by rw [kC_length]; omega) | exact (by rw [hC_length]; omega) | exact (by rw [wC_length]; omega)) (by first | exact (kC_sp _ _) | exact (hC_sp _ _))) (L' := (_ :: _ :: _ :: _)) rfl ?_
      intro w H
      refine s_val (r_assign rfl) ?_
      refine c_nil (l' := [_,_,_,_,_,_,_,_,_,_,_,_,_,_,_,_,_,_,_,_,_,_,_,_,_,_,_,_,_,_,_,_,_,_,_,_,_,_,_,_,_,_,_,_,_,_,_,_,_,_,_,_,_,_,_,_,_,_,_,_,_,_,_,_,_,_,_,_,_,_,_,_,_,_,_,_,_,_,_,_,_,_,_,_,_,_,_,_]) rfl ?_
      refine c_seq ?_
      refine c_seq ?_
      refine d_begin (sz := 88) ⟨rfl, rfl⟩ (by kernel_rfl) H (H.sub (.cons_cons _ (.cons_cons _ (.cons_cons _ (List.nil_sublist _))))) rfl ?_
      intro w H
      refine d_take (i := 0) rfl (by kernel_rfl) (fun _ _ _ h => h) (H.sub (.cons_cons _ (.cons_cons _ (.cons_cons _ (List.nil_sublist _))))) (fun _ _ => r_move rfl) rfl ?_
      refine d_take (i := 1) rfl (by kernel_rfl) (fun _ _ _ h => h) (H.sub (.cons_cons _ (.cons_cons _ (.cons_cons _ (List.nil_sublist _))))) (fun _ _ => r_nilCheck rfl) rfl ?_
      refine d_take (i := 2) rfl (by kernel_rfl) (fun _ _ _ h => h) (H.sub (.cons_cons _ (.cons_cons _ (.cons_cons _ (List.nil_sublist _))))) (fun _ _ => r_fieldAddr (k := 0) Try.runUnderlying91 rfl Try.sizeOf27 (by decide) rfl rfl) rfl ?_
      refine d_take (i := 3) rfl (by kernel_rfl) (fun _ _ _ h => h) (H.sub (.cons_cons _ (.cons_cons _ (.cons_cons _ (List.nil_sublist _))))) (fun _ HS => r_load1 Try.isAgg27 rfl (HS.at 1 rfl) rfl) rfl ?_
      refine d_take (i := 4) rfl (by kernel_rfl) (fun _ _ _ h => h) (H.sub (.cons_cons _ (.cons_cons _ (.cons_cons _ (List.nil_sublist _))))) (fun _ _ => r_move rfl) rfl ?_
      refine d_take (i := 5) rfl (by kernel_rfl) (fun _ _ _ h => h) (H.sub (.cons_cons _ (.cons_cons _ (.cons_cons _ (List.nil_sublist _))))) (fun _ HS => r_loadn Try.isAgg97 Try.sizeOf97 rfl (HS.at 0 rfl) (by first | exact (kC_td _) | exact (hC_td _) | exact (hC_seed _) | exact (shC_td _ _) | exact (sdC_td _ _)) (by first | exact (kC_length _) | exact (hC_length _) | exact (shC_length _ _) | exact (wC_length _) | exact (sdC_length _ _) | exact rfl)) rfl ?_
      refine d_all1 (i := 6) (by kernel_rfl) ?_
      refine b_call rfl go_none (r_call Try.call36 (ec rfl (ec rfl (ec rfl en)))) (mwrite_spec bm x.C q Nm (by omega) (2 + x.head * x.z + x.slot) (sealS (2 + x.head * x.z + x.slot) (x.gens.getD x.head.toNat 0) body) (by omega) (by omega) _ hm (H.ownsM (.cons _ (.cons _ (.cons _ (List.Sublist.refl _)))))) rfl ?_
      rintro v w ⟨rfl, N2, hm2, HC⟩
      replace H : St w0 XN _ (_ :: _ :: _ :: N2) := St.callr (L := [_,_,_]) H HC
      refine ⟨(H.sub (.cons_cons _ (.cons_cons _ (.cons_cons _ (List.nil_sublist _))))), ?_⟩
      refine d_take (i := 7) rfl (by kernel_rfl) (fun _ _ _ h => h) (H.sub (.cons_cons _ (.cons_cons _ (.cons_cons _ (List.nil_sublist _))))) (fun _ _ => r_assign rfl) rfl ?_
      refine d_done (l' := [_,_,_,_,_,_,_,_,_,_,_,_,_,_,_,_,_,_,_,_,_,_,_,_,_,_,_,_,_,_,_,_,_,_,_,_,_,_,_,_,_,_,_,_,_,_,_,_,_,_,_,_,_,_,_,_,_,_,_,_,_,_,_,_,_,_,_,_,_,_,_,_,_,_,_,_,_,_,_,_,_,_,_,_,_,_,_,_]) (by kernel_rfl) rfl ?_
      refine x_thenNormal ?_
      refine c_rseq (n := 88) ⟨rfl, rfl⟩ ?_
      refine s_val (r_move rfl) ?_
      refine s_val (r_neq rfl rfl) ?_
      refine c_nil (l' := [_,_,_,_,_,_,_,_,_,_,_,_,_,_,_,_,_,_,_,_,_,_,_,_,_,_,_,_,_,_,_,_,_,_,_,_,_,_,_,_,_,_,_,_,_,_,_,_,_,_,_,_,_,_,_,_,_,_,_,_,_,_,_,_,_,_,_,_,_,_,_,_,_,_,_,_,_,_,_,_,_,_,_,_,_,_,_,_]) rfl ?_
      refine c_iff rfl ?_
      refine wp_skip ?_
      refine x_thenNormal ?_
      refine c_rseq (n := 88) ⟨rfl, rfl⟩ ?_
      refine s_val (r_move rfl) ?_
      refine s_val (r_nilCheck rfl) ?_
      refine s_val (r_fieldAddr (k := 4) Try.runUnderlying91 rfl Try.sizeOf35 (by decide) rfl rfl) ?_
      refine s_val (r_load1 Try.isAgg35 rfl (H.at 1 rfl) rfl) ?_
      refine s_val (r_move rfl) ?_
      refine s_val (r_move rfl) ?_
      refine s_val (r_move rfl) ?_
      refine s_val (r_move rfl) ?_
      refine s_val (r_move rfl) ?_
      refine s_val (r_move rfl) ?_
      refine s_val (r_add rfl rfl (w_i64 (by omega) (by omega))) ?_
      refine s_val (r_indexAddrS Try.runUnderlying35 Try.sizeOf36 rfl rfl (by omega) (by omega)) ?_
      refine s_st (m_store1 H 2 Try.sizeOf36 rfl rfl rfl rfl (by rw [uC_length]; omega) (uC_set x.gens x.head.toNat _ (by omega))) (L' := (_ :: _ :: _ :: _)) rfl ?_
      intro w H
      refine s_val (r_nilCheck rfl) ?_
      refine s_val (r_fieldAddr (k := 5) Try.runUnderlying91 rfl Try.sizeOf3 (by decide) rfl rfl) ?_
      refine s_st (m_store1 H 1 Try.sizeOf3 rfl rfl rfl rfl (by show _ < 8; omega) rfl) (L' := (_ :: _ :: _ :: _)) rfl ?_
      intro w H
      refine s_val (r_nilCheck rfl) ?_
      refine s_val (r_fieldAddr (k := 6) Try.runUnderlying91 rfl Try.sizeOf3 (by decide) rfl rfl) ?_
      refine s_st (m_store1 H 1 Try.sizeOf3 rfl rfl rfl rfl (by show _ < 8; omega) rfl) (L' := (_ :: _ :: _ :: _)) rfl ?_
      intro w H
      refine c_nil (l' := [_,_,_,_,_,_,_,_,_,_,_,_,_,_,_,_,_,_,_,_,_,_,_,_,_,_,_,_,_,_,_,_,_,_,_,_,_,_,_,_,_,_,_,_,_,_,_,_,_,_,_,_,_,_,_,_,_,_,_,_,_,_,_,_,_,_,_,_,_,_,_,_,_,_,_,_,_,_,_,_,_,_,_,_,_,_,_,_]) rfl ?_
      refine c_rseq (n := 88) ⟨rfl, rfl⟩ ?_
      refine s_val (r_move rfl) ?_
      refine s_val (r_move rfl) ?_
      refine s_val (r_nilCheck rfl) ?_
      refine s_val (r_fieldAddr (k := 7) Try.runUnderlying91 rfl Try.sizeOf36 (by decide) rfl rfl) ?_
      refine s_val (r_load1 Try.isAgg36 rfl (H.at 1 rfl) rfl) ?_
      refine s_val (r_move rfl) ?_
      refine s_val (r_max (ec rfl (ec rfl en)) rfl) ?_
      refine s_val (r_nilCheck rfl) ?_
      refine s_val (r_fieldAddr (k := 7) Try.runUnderlying91 rfl Try.sizeOf36 (by decide) rfl rfl) ?_
      refine s_st (m_store1 H 1 Try.sizeOf36 rfl rfl rfl rfl (by show _ < 8; omega) rfl) (L' := (_ :: _ :: _ :: _)) rfl ?_
      intro w H
      refine c_nil (l' := [_,_,_,_,_,_,_,_,_,_,_,_,_,_,_,_,_,_,_,_,_,_,_,_,_,_,_,_,_,_,_,_,_,_,_,_,_,_,_,_,_,_,_,_,_,_,_,_,_,_,_,_,_,_,_,_,_,_,_,_,_,_,_,_,_,_,_,_,_,_,_,_,_,_,_,_,_,_,_,_,_,_,_,_,_,_,_,_]) rfl ?_
      refine c_rseq (n := 88) ⟨rfl, rfl⟩ ?_
      refine s_val (r_move rfl) ?_
      refine s_val (r_assign rfl) ?_
      refine s_val (r_assign rfl) ?_
      refine c_nil (l' := [_,_,_,_,_,_,_,_,_,_,_,_,_,_,_,_,_,_,_,_,_,_,_,_,_,_,_,_,_,_,_,_,_,_,_,_,_,_,_,_,_,_,_,_,_,_,_,_,_,_,_,_,_,_,_,_,_,_,_,_,_,_,_,_,_,_,_,_,_,_,_,_,_,_,_,_,_,_,_,_,_,_,_,_,_,_,_,_]) rfl ?_
      refine wp_ret ?_
      refine e_ret (res2 rfl rfl rfl) ⟨_, rfl, ?_⟩
      have hap : appL x body = (putL x x.head x.slot (x.gens.getD x.head.toNat 0) body, 2 + x.head * x.z + x.slot, 0) := by unfold appL; rw [if_neg (by omega), if_pos ⟨hh, hsz⟩]
      rw [hap, ← hXN]
      refine ⟨rfl, _, ?_, H.sub (.cons _ (List.Sublist.refl _))⟩
      exact ⟨bm, cs, bu, T, T2, N2, by show _ = (bl, Obj.cells (lgC _ _ _ _ _ (List.length (List.set _ _ _)) _ _ _).toArray T (0, 0)) :: _; rw [List.length_set]; rfl, hm2, hF.put hs0 hs1 ht0 ht1 hgn0 hgn1 hk⟩
    · skip
      replace H := H.quiet HC
      refine s_val (r_move rfl) ?_
      refine s_val (r_extract rfl rfl) ?_
      refine s_val (r_extract rfl rfl) ?_
      refine s_val (r_extract rfl rfl) ?_
      refine s_val (r_extract rfl rfl) ?_
      refine s_val (r_assign rfl) ?_
      refine s_val (r_assign rfl) ?_
      refine s_val (r_assign rfl) ?_
      refine s_val (r_assign rfl) ?_
      refine c_nil (l' := [_,_,_,_,_,_,_,_,_,_,_,_,_,_,_,_,_,_,_,_,_,_,_,_,_,_,_,_,_,_,_,_,_,_,_,_,_,_,_,_,_,_,_,_,_,_,_,_,_,_,_,_,_,_,_,_,_,_,_,_,_,_,_,_,_,_,_,_,_,_,_,_,_,_,_,_,_,_,_,_,_,_,_,_,_,_,_,_]) rfl ?_
      refine c_seq ?_
      refine c_rseq (n := 88) ⟨rfl, rfl⟩ ?_
      refine s_val (r_move rfl) ?_
      refine s_val (r_notp rfl) ?_
      refine c_nil (l' := [_,_,_,_,_,_,_,_,_,_,_,_,_,_,_,_,_,_,_,_,_,_,_,_,_,_,_,_,_,_,_,_,_,_,_,_,_,_,_,_,_,_,_,_,_,_,_,_,_,_,_,_,_,_,_,_,_,_,_,_,_,_,_,_,_,_,_,_,_,_,_,_,_,_,_,_,_,_,_,_,_,_,_,_,_,_,_,_]) rfl ?_
      refine c_if rfl (fun h30 => ?_) (fun h30 => ?_)
      · skip
        refine c_rseq (n := 88) ⟨rfl, rfl⟩ ?_
        refine s_val (r_assign rfl) ?_
        refine s_val (r_assign rfl) ?_
        refine c_nil (l' := [_,_,_,_,_,_,_,_,_,_,_,_,_,_,_,_,_,_,_,_,_,_,_,_,_,_,_,_,_,_,_,_,_,_,_,_,_,_,_,_,_,_,_,_,_,_,_,_,_,_,_,_,_,_,_,_,_,_,_,_,_,_,_,_,_,_,_,_,_,_,_,_,_,_,_,_,_,_,_,_,_,_,_,_,_,_,_,_]) rfl ?_
        refine wp_ret (x_thenRet ?_)
        refine e_ret (res2 rfl rfl rfl) ⟨_, rfl, ?_⟩
        have hap : appL x body = (x, 0, 6) := by unfold appL; rw [if_neg (by omega), if_neg hno, if_neg h30]
        rw [hap, ← hXN]
        exact ⟨rfl, _, ⟨bm, cs, bu, T, T2, Nm, rfl, mir_mono hm (by omega), hF⟩, H⟩
      · skip
        have hs0 : 0 ≤ firstZ x.gens := Decidable.not_not.1 h30
        have hs1 : firstZ x.gens < x.g := by rcases firstZ_cases x.gens with ⟨e, _⟩ | ⟨i, hi, e, _⟩ <;> omega
        have ht0 : (0 : Int) ≤ 0 := Int.le_refl _
        have ht1 : 0 < x.z := by omega
        have hgn0 : 0 ≤ x.known + 1 := by omega
        have hgn1 : x.known + 1 ≤ x.known + 1 := Int.le_refl _
        refine wp_skip ?_
        refine x_thenNormal ?_
        refine c_rseq (n := 88) ⟨rfl, rfl⟩ ?_
        refine s_val (r_move rfl) ?_
        refine s_val (r_nilCheck rfl) ?_
        refine s_val (r_fieldAddr (k := 2) Try.runUnderlying91 rfl Try.sizeOf30 (by decide) rfl rfl) ?_
        refine s_val (r_loadn Try.isAgg30 Try.sizeOf30 rfl (H.at 0 rfl) (lgC_sh _ _ _ _ _ _ _ _ _) (by first | exact (kC_length _) | exact (hC_length _) | exact (shC_length _ _) | exact (wC_length _) | exact (sdC_length _ _) | exact rfl)) ?_
        refine s_val (r_move rfl) ?_
        refine s_val (r_move rfl) ?_
        refine s_call (r_call Try.call34 (ec rfl (ec rfl (ec rfl en)))) (sector_spec x.g x.z fg0 fg1 fz0 fz1 (firstZ x.gens) 0 hs0 hs1 ht0 ht1 _) ?_
        rintro v w ⟨rfl, HC⟩
        replace H := H.quiet HC
        have hgz := gz_rng (g := x.g) (z := x.z) (by omega) fg1 (by omega) fz1
        have hszr := sz_rng hs0 hs1 (z := x.z) (by omega)
        refine s_val (r_move rfl) ?_
        refine s_val (r_extract rfl rfl) ?_
        refine s_val (r_extract rfl rfl) ?_
        refine s_val (r_assign rfl) ?_
        refine s_val (r_assign rfl) ?_
        refine c_nil (l' := [_,_,_,_,_,_,_,_,_,_,_,_,_,_,_,_,_,_,_,_,_,_,_,_,_,_,_,_,_,_,_,_,_,_,_,_,_,_,_,_,_,_,_,_,_,_,_,_,_,_,_,_,_,_,_,_,_,_,_,_,_,_,_,_,_,_,_,_,_,_,_,_,_,_,_,_,_,_,_,_,_,_,_,_,_,_,_,_]) rfl ?_
        refine c_rseq (n := 88) ⟨rfl, rfl⟩ ?_
        refine s_val (r_move rfl) ?_
        refine s_val (r_nilCheck rfl) ?_
        refine s_val (r_fieldAddr (k := 1) Try.runUnderlying91 rfl Try.sizeOf89 (by decide) rfl rfl) ?_
        refine s_val (r_load1 Try.isAgg89 rfl (H.at 0 rfl) rfl) ?_
        refine s_val (r_move rfl) ?_
        refine s_val (r_move rfl) ?_
        refine s_val (r_move rfl) ?_
        refine s_call (r_call Try.call35 (ec rfl (ec rfl (ec rfl (ec rfl en))))) (pack_spec cs (2 + (firstZ x.gens) * x.z + 0) (x.known + 1) (by omega) (by omega) hgn0 (by omega) a cap body (by omega) _ (hrX _ _ H)) ?_
        rintro v w ⟨rfl, HC⟩
        replace H := H.quiet HC
        refine s_val (r_move rfl) ?_
        refine s_val (r_extract rfl rfl) ?_
        refine s_val (r_extract rfl rfl) ?_
        refine s_new (m_alloc (cs := (kC zS)) H Try.zeroValue97 rfl) ?_
        intro w b12 H
        refine s_st (m_storen H 0 128 Try.sizeOf97 rfl rfl (by first | exact (kC_length _) | exact (hC_length _) | exact (shC_length _ _) | exact (wC_length _) | exact (sdC_length _ _)) (by first | exact (kC_one _) | exact (hC_one _) | exact (shC_one _ _) | exact (elW.one _) | exact (sdC_one _ _)) rfl (by first | exact (by rw [kC_length]; omega) | exact (by rw [hC_length]; omega) | exact (by rw [wC_length]; omega)) (by first | exact (kC_sp _ _) | exact (hC_sp _ _))) (L' := (_ :: _ :: _ :: _)) rfl ?_
        intro w H
        refine s_val (r_assign rfl) ?_
        refine c_nil (l' := [_,_,_,_,_,_,_,_,_,_,_,_,_,_,_,_,_,_,_,_,_,_,_,_,_,_,_,_,_,_,_,_,_,_,_,_,_,_,_,_,_,_,_,_,_,_,_,_,_,_,_,_,_,_,_,_,_,_,_,_,_,_,_,_,_,_,_,_,_,_,_,_,_,_,_,_,_,_,_,_,_,_,_,_,_,_,_,_]) rfl ?_
        refine c_seq ?_
        refine c_seq ?_
        refine d_begin (sz := 88) ⟨rfl, rfl⟩ (by kernel_rfl) H (H.sub (.cons_cons _ (.cons_cons _ (.cons_cons _ (List.nil_sublist _))))) rfl ?_
        intro w H
        refine d_take (i := 0) rfl (by kernel_rfl) (fun _ _ _ h => h) (H.sub (.cons_cons _ (.cons_cons _ (.cons_cons _ (List.nil_sublist _))))) (fun _ _ => r_move rfl) rfl ?_
        refine d_take (i := 1) rfl (by kernel_rfl) (fun _ _ _ h => h) (H.sub (.cons_cons _ (.cons_cons _ (.cons_cons _ (List.nil_sublist _))))) (fun _ _ => r_nilCheck rfl) rfl ?_
        refine d_take (i := 2) rfl (by kernel_rfl) (fun _ _ _ h => h) (H.sub (.cons_cons _ (.cons_cons _ (.cons_cons _ (List.nil_sublist _))))) (fun _ _ => r_fieldAddr (k := 0) Try.runUnderlying91 rfl Try.sizeOf27 (by decide) rfl rfl) rfl ?_
        refine d_take (i := 3) rfl (by kernel_rfl) (fun _ _ _ h => h) (H.sub (.cons_cons _ (.cons_cons _ (.cons_cons _ (List.nil_sublist _))))) (fun _ HS => r_load1 Try.isAgg27 rfl (HS.at 1 rfl) rfl) rfl ?_
        refine d_take (i := 4) rfl (by kernel_rfl) (fun _ _ _ h => h) (H.sub (.cons_cons _ (.cons_cons _ (.cons_cons _ (List.nil_sublist _))))) (fun _ _ => r_move rfl) rfl ?_
        refine d_take (i := 5) rfl (by kernel_rfl) (fun _ _ _ h => h) (H.sub (.cons_cons _ (.cons_cons _ (.cons_cons _ (List.nil_sublist _))))) (fun _ HS => r_loadn Try.isAgg97 Try.sizeOf97 rfl (HS.at 0 rfl) (by first | exact (kC_td _) | exact (hC_td _) | exact (hC_seed _) | exact (shC_td _ _) | exact (sdC_td _ _)) (by first | exact (kC_length _) | exact (hC_length _) | exact (shC_length _ _) | exact (wC_length _) | exact (sdC_length _ _) | exact rfl)) rfl ?_
        refine d_all1 (i := 6) (by kernel_rfl) ?_
        refine b_call rfl go_none (r_call Try.call36 (ec rfl (ec rfl (ec rfl en)))) (mwrite_spec bm x.C q Nm (by omega) (2 + (firstZ x.gens) * x.z + 0) (sealS (2 + (firstZ x.gens) * x.z + 0) (x.known + 1) body) (by omega) (by omega) _ hm (H.ownsM (.cons _ (.cons _ (.cons _ (List.Sublist.refl _)))))) rfl ?_
        rintro v w ⟨rfl, N2, hm2, HC⟩
        replace H : St w0 XN _ (_ :: _ :: _ :: N2) := St.callr (L := [_,_,_]) H HC
        refine ⟨(H.sub (.cons_cons _ (.cons_cons _ (.cons_cons _ (List.nil_sublist _))))), ?_⟩
        refine d_take (i := 7) rfl (by kernel_rfl) (fun _ _ _ h => h) (H.sub (.cons_cons _ (.cons_cons _ (.cons_cons _ (List.nil_sublist _))))) (fun _ _ => r_assign rfl) rfl ?_
        refine d_done (l' := [_,_,_,_,_,_,_,_,_,_,_,_,_,_,_,_,_,_,_,_,_,_,_,_,_,_,_,_,_,_,_,_,_,_,_,_,_,_,_,_,_,_,_,_,_,_,_,_,_,_,_,_,_,_,_,_,_,_,_,_,_,_,_,_,_,_,_,_,_,_,_,_,_,_,_,_,_,_,_,_,_,_,_,_,_,_,_,_]) (by kernel_rfl) rfl ?_
        refine x_thenNormal ?_
        refine c_rseq (n := 88) ⟨rfl, rfl⟩ ?_
        refine s_val (r_move rfl) ?_
        refine s_val (r_neq rfl rfl) ?_
        refine c_nil (l' := [_,_,_,_,_,_,_,_,_,_,_,_,_,_,_,_,_,_,_,_,_,_,_,_,_,_,_,_,_,_,_,_,_,_,_,_,_,_,_,_,_,_,_,_,_,_,_,_,_,_,_,_,_,_,_,_,_,_,_,_,_,_,_,_,_,_,_,_,_,_,_,_,_,_,_,_,_,_,_,_,_,_,_,_,_,_,_,_]) rfl ?_
        refine c_iff rfl ?_
        refine wp_skip ?_
        refine x_thenNormal ?_
        refine c_rseq (n := 88) ⟨rfl, rfl⟩ ?_
        refine s_val (r_move rfl) ?_
        refine s_val (r_nilCheck rfl) ?_
        refine s_val (r_fieldAddr (k := 4) Try.runUnderlying91 rfl Try.sizeOf35 (by decide) rfl rfl) ?_
        refine s_val (r_load1 Try.isAgg35 rfl (H.at 1 rfl) rfl) ?_
        refine s_val (r_move rfl) ?_
        refine s_val (r_move rfl) ?_
        refine s_val (r_move rfl) ?_
        refine s_val (r_move rfl) ?_
        refine s_val (r_move rfl) ?_
        refine s_val (r_move rfl) ?_
        refine s_val (r_add rfl rfl (w_i64 (by omega) (by omega))) ?_
        refine s_val (r_indexAddrS Try.runUnderlying35 Try.sizeOf36 rfl rfl (by omega) (by omega)) ?_
        refine s_st (m_store1 H 2 Try.sizeOf36 rfl rfl rfl rfl (by rw [uC_length]; omega) (uC_set x.gens (firstZ x.gens).toNat _ (by omega))) (L' := (_ :: _ :: _ :: _)) rfl ?_
        intro w H
        refine s_val (r_nilCheck rfl) ?_
        refine s_val (r_fieldAddr (k := 5) Try.runUnderlying91 rfl Try.sizeOf3 (by decide) rfl rfl) ?_
        refine s_st (m_store1 H 1 Try.sizeOf3 rfl rfl rfl rfl (by show _ < 8; omega) rfl) (L' := (_ :: _ :: _ :: _)) rfl ?_
        intro w H
        refine s_val (r_nilCheck rfl) ?_
        refine s_val (r_fieldAddr (k := 6) Try.runUnderlying91 rfl Try.sizeOf3 (by decide) rfl rfl) ?_
        refine s_st (m_store1 H 1 Try.sizeOf3 rfl rfl rfl rfl (by show _ < 8; omega) rfl) (L' := (_ :: _ :: _ :: _)) rfl ?_
        intro w H
        refine c_nil (l' := [_,_,_,_,_,_,_,_,_,_,_,_,_,_,_,_,_,_,_,_,_,_,_,_,_,_,_,_,_,_,_,_,_,_,_,_,_,_,_,_,_,_,_,_,_,_,_,_,_,_,_,_,_,_,_,_,_,_,_,_,_,_,_,_,_,_,_,_,_,_,_,_,_,_,_,_,_,_,_,_,_,_,_,_,_,_,_,_]) rfl ?_
        refine c_rseq (n := 88) ⟨rfl, rfl⟩ ?_
        refine s_val (r_move rfl) ?_
        refine s_val (r_move rfl) ?_
        refine s_val (r_nilCheck rfl) ?_
        refine s_val (r_fieldAddr (k := 7) Try.runUnderlying91 rfl Try.sizeOf36 (by decide) rfl rfl) ?_
        refine s_val (r_load1 Try.isAgg36 rfl (H.at 1 rfl) rfl) ?_
        refine s_val (r_move rfl) ?_
        refine s_val (r_max (ec rfl (ec rfl en)) rfl) ?_
        refine s_val (r_nilCheck rfl) ?_
        refine s_val (r_fieldAddr (k := 7) Try.runUnderlying91 rfl Try.sizeOf36 (by decide) rfl rfl) ?_
        refine s_st (m_store1 H 1 Try.sizeOf36 rfl rfl rfl rfl (by show _ < 8; omega) rfl) (L' := (_ :: _ :: _ :: _)) rfl ?_
        intro w H
        refine c_nil (l' := [_,_,_,_,_,_,_,_,_,_,_,_,_,_,_,_,_,_,_,_,_,_,_,_,_,_,_,_,_,_,_,_,_,_,_,_,_,_,_,_,_,_,_,_,_,_,_,_,_,_,_,_,_,_,_,_,_,_,_,_,_,_,_,_,_,_,_,_,_,_,_,_,_,_,_,_,_,_,_,_,_,_,_,_,_,_,_,_]) rfl ?_
        refine c_rseq (n := 88) ⟨rfl, rfl⟩ ?_
        refine s_val (r_move rfl) ?_
        refine s_val (r_assign rfl) ?_
        refine s_val (r_assign rfl) ?_
        refine c_nil (l' := [_,_,_,_,_,_,_,_,_,_,_,_,_,_,_,_,_,_,_,_,_,_,_,_,_,_,_,_,_,_,_,_,_,_,_,_,_,_,_,_,_,_,_,_,_,_,_,_,_,_,_,_,_,_,_,_,_,_,_,_,_,_,_,_,_,_,_,_,_,_,_,_,_,_,_,_,_,_,_,_,_,_,_,_,_,_,_,_]) rfl ?_
        refine wp_ret ?_
        refine e_ret (res2 rfl rfl rfl) ⟨_, rfl, ?_⟩
        have hap : appL x body = (putL x (firstZ x.gens) 0 (x.known + 1) body, 2 + firstZ x.gens * x.z + 0, 0) := by unfold appL; rw [if_neg (by omega), if_neg hno, if_pos hs0]
        rw [hap, ← hXN]
        refine ⟨rfl, _, ?_, H.sub (.cons _ (List.Sublist.refl _))⟩
        exact ⟨bm, cs, bu, T, T2, N2, by show _ = (bl, Obj.cells (lgC _ _ _ _ _ (List.length (List.set _ _ _)) _ _ _).toArray T (0, 0)) :: _; rw [List.length_set]; rfl, hm2, hF.put hs0 hs1 ht0 ht1 hgn0 hgn1 hk⟩

set_option maxHeartbeats 4000000 in
theorem newlog_spec (bm : Nat) (C : List Sec) (cs : List Value) (g z : Int) (hg0 : 3 ≤ g) (hg1 : g ≤ 64) (hz0 : 1 ≤ z) (hz1 : z ≤ 32) (hcl : 2 + g * z ≤ (C.length : Int)) (w0 : World) (hm : MirR 51 89 72 w0 bm C) :
    Calls Try.prog 30 #[.pointer (some ⟨bm, 0, none⟩), .iface 72 (.agg cs.toArray), .agg (shC g z).toArray] w0 fun e w => ∃ v, e = .returned v ∧ (∃ bl bu, v = .tuple #[.pointer (some ⟨bl, 0, none⟩), .int .i64 0] ∧ St w0 [] w [(bl, .cells (lgC bm (.iface 72 (.agg cs.toArray)) g z bu g.toNat (-1) 0 0).toArray 91 (0, 0)), (bu, .cells (uC (List.replicate g.toNat 0)).toArray 36 (0, 0))]) := by
  have H := St.refl w0
  refine c_enter (args := [.pointer (some ⟨bm, 0, none⟩), .iface 72 (.agg cs.toArray), .agg (shC g z).toArray]) (l := [.pointer (some ⟨bm, 0, none⟩), .iface 72 (.agg cs.toArray), .agg (shC g z).toArray, undef, undef, undef, undef, undef, undef, undef, undef, undef, undef, undef, undef, undef, undef, undef, undef, undef, undef, undef, undef, undef, undef, undef, undef, undef, undef, undef, undef, undef, undef, undef]) Try.func30 Try.ntmps30 rfl rfl ?_
  refine c_rseq (n := 34) ⟨rfl, rfl⟩ ?_
  refine s_new (m_box (cs := (shC g z)) H rfl rfl) ?_
  intro w b5 H
  refine s_val (r_assign rfl) ?_
  refine s_val (r_assign rfl) ?_
  refine c_nil (l' := [_,_,_,_,_,_,_,_,_,_,_,_,_,_,_,_,_,_,_,_,_,_,_,_,_,_,_,_,_,_,_,_,_,_]) rfl ?_
  refine c_seq ?_
  refine wp_block ?_
  refine c_rseq (n := 34) ⟨rfl, rfl⟩ ?_
  refine s_val (r_move rfl) ?_
  refine s_val (r_nilpF Try.runUnderlying27 rfl rfl) ?_
  refine s_val (r_move rfl) ?_
  refine g_yes rfl rfl ?_
  refine s_val (r_move rfl) ?_
  refine g_yes rfl rfl ?_
  refine s_val (r_nili Try.runUnderlying89 rfl rfl) ?_
  refine s_val (r_pickf rfl rfl) ?_
  refine s_val (r_assign rfl) ?_
  refine c_nil (l' := [_,_,_,_,_,_,_,_,_,_,_,_,_,_,_,_,_,_,_,_,_,_,_,_,_,_,_,_,_,_,_,_,_,_]) rfl ?_
  refine c_iff rfl ?_
  refine c_rseq (n := 34) ⟨rfl, rfl⟩ ?_
  refine s_val (r_loadn Try.isAgg30 Try.sizeOf30 rfl (H.at 0 rfl) (by first | exact (kC_td _) | exact (hC_td _) | exact (hC_seed _) | exact (shC_td _ _) | exact (sdC_td _ _)) (by first | exact (kC_length _) | exact (hC_length _) | exact (shC_length _ _) | exact (wC_length _) | exact (sdC_length _ _) | exact rfl)) ?_
  refine s_call (r_call Try.call29 (ec rfl en)) (check_spec g z hg0 hg1 hz0 hz1 _) ?_
  rintro v w ⟨rfl, HC⟩
  replace H := H.quiet HC
  refine s_val (r_neq rfl rfl) ?_
  refine s_val (r_move rfl) ?_
  refine g_yes rfl rfl ?_
  refine s_val (r_loadn Try.isAgg30 Try.sizeOf30 rfl (H.at 0 rfl) (by first | exact (kC_td _) | exact (hC_td _) | exact (hC_seed _) | exact (shC_td _ _) | exact (sdC_td _ _)) (by first | exact (kC_length _) | exact (hC_length _) | exact (shC_length _ _) | exact (wC_length _) | exact (sdC_length _ _) | exact rfl)) ?_
  refine g_yes rfl rfl ?_
  refine s_call (r_call Try.call18 (ec rfl en)) (sectors_spec g z hg0 hg1 hz0 hz1 _) ?_
  rintro v w ⟨rfl, HC⟩
  replace H := H.quiet HC
  refine g_yes rfl rfl ?_
  refine s_val (r_move rfl) ?_
  refine g_yes rfl rfl ?_
  refine s_call (r_call Try.call53 (ec rfl en)) (mlen_spec bm C _ (hm.st (H.sub (List.nil_sublist _)))) ?_
  rintro v w ⟨rfl, HC⟩
  replace H := H.quiet HC
  refine g_yes rfl rfl ?_
  refine s_val (r_gtr rfl rfl) ?_
  refine s_val (r_pickf rfl rfl) ?_
  refine s_val (r_assign rfl) ?_
  refine c_nil (l' := [_,_,_,_,_,_,_,_,_,_,_,_,_,_,_,_,_,_,_,_,_,_,_,_,_,_,_,_,_,_,_,_,_,_]) rfl ?_
  refine c_if rfl (fun h15 => ?_) (fun h15 => ?_)
  · skip
    exfalso; omega
  · skip
    refine wp_skip ?_
    refine x_blockNormal ?_
    refine x_thenNormal ?_
    refine c_seq ?_
    refine d_begin (sz := 34) ⟨rfl, rfl⟩ (by kernel_rfl) H (H.sub (.cons_cons _ (List.nil_sublist _))) rfl ?_
    intro w H
    refine d_take (i := 0) rfl (by kernel_rfl) (fun _ _ _ h => h) (H.sub (.cons_cons _ (List.nil_sublist _))) (fun _ _ => r_move rfl) rfl ?_
    refine d_take (i := 1) rfl (by kernel_rfl) (fun _ _ _ h => h) (H.sub (.cons_cons _ (List.nil_sublist _))) (fun _ _ => r_move rfl) rfl ?_
    refine d_take (i := 2) rfl (by kernel_rfl) (fun _ _ _ h => h) (H.sub (.cons_cons _ (List.nil_sublist _))) (fun _ HS => r_loadn Try.isAgg30 Try.sizeOf30 rfl (HS.at 0 rfl) (by first | exact (kC_td _) | exact (hC_td _) | exact (hC_seed _) | exact (shC_td _ _) | exact (sdC_td _ _)) (by first | exact (kC_length _) | exact (hC_length _) | exact (shC_length _ _) | exact (wC_length _) | exact (sdC_length _ _) | exact rfl)) rfl ?_
    refine d_take (i := 3) rfl (by kernel_rfl) (fun _ _ _ h => h) (H.sub (.cons_cons _ (List.nil_sublist _))) (fun _ _ => r_fieldAddr (k := 0) Try.runUnderlying30 rfl Try.sizeOf3 (by decide) rfl rfl) rfl ?_
    refine d_take (i := 4) rfl (by kernel_rfl) (fun _ _ _ h => h) (H.sub (.cons_cons _ (List.nil_sublist _))) (fun _ HS => r_load1 Try.isAgg3 rfl (HS.at 0 rfl) rfl) rfl ?_
    refine d_all1 (i := 5) (by kernel_rfl) ?_
    refine b_new rfl go_none (m_make (n := g.toNat) (nb := 8) (v := .int .u64 0) H Try.underlying35 (by kernel_rfl) rfl rfl rfl (by omega) (by omega) (by omega) (by omega)) rfl (fun _ _ H => (H.sub (.cons _ (.cons_cons _ (List.nil_sublist _))))) ?_
    intro w bu H
    refine d_take (i := 6) rfl (by kernel_rfl) (fun _ _ _ h => h) (H.sub (.cons _ (.cons_cons _ (List.nil_sublist _)))) (fun _ _ => r_buildS Try.runUnderlying91 Try.zeroValue91 places91 (pc rfl (pc rfl (pc rfl (pc rfl (pc rfl pn))))) rfl) rfl ?_
    refine d_all1 (i := 7) (by kernel_rfl) ?_
    refine b_new rfl go_none (m_box (cs := (lgC bm (.iface 72 (.agg cs.toArray)) g z bu g.toNat (-1) 0 0)) H rfl rfl) rfl (fun _ _ H => (H.sub (.cons _ (.cons _ (.cons_cons _ (List.nil_sublist _)))))) ?_
    intro w b33 H
    refine d_take (i := 8) rfl (by kernel_rfl) (fun _ _ _ h => h) (H.sub (.cons _ (.cons _ (.cons_cons _ (List.nil_sublist _))))) (fun _ _ => r_assign rfl) rfl ?_
    refine d_take (i := 9) rfl (by kernel_rfl) (fun _ _ _ h => h) (H.sub (.cons _ (.cons _ (.cons_cons _ (List.nil_sublist _))))) (fun _ _ => r_assign rfl) rfl ?_
    refine d_done (l' := [_,_,_,_,_,_,_,_,_,_,_,_,_,_,_,_,_,_,_,_,_,_,_,_,_,_,_,_,_,_,_,_,_,_]) (by kernel_rfl) rfl ?_
    refine x_thenNormal ?_
    refine wp_ret ?_
    refine e_ret (res2 rfl rfl rfl) ⟨_, rfl, ?_⟩
    have e : uC (List.replicate g.toNat 0) = List.replicate g.toNat (.int .u64 0) := by simp [uC]
    rw [e]
    exact ⟨b33, bu, rfl, H.sub (.cons_cons _ (.cons_cons _ (List.nil_sublist _)))⟩

end Go.Proofs.Ytbjalofmamoffaa

